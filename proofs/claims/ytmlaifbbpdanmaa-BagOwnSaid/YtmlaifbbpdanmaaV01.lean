/- Part 1 of a proof. Conditions: those that its theorems state. -/
import Derived.RangeFuncLeaves
import Derived.OrdersIn
import Derived.TacticsIn
import Derived.ChangeKeysEq
import Derived.Laws.OwnMore
import Derived.Laws.IdiomStrings
import Derived.Laws.BytesArg
set_option linter.unusedSimpArgs false
set_option linter.unusedVariables false
set_option linter.unnecessarySimpa false
set_option maxHeartbeats 40000000
set_option maxRecDepth 4000
namespace Go
theorem om {p : Prop} (h : p:=by omega) : p:=h
theorem sm {p : Prop} (h : p:=by simp) : p:=h
theorem Qh:type_of% @List.getElem?_eq_some_iff:=@List.getElem?_eq_some_iff
theorem Qi:type_of% @Nat.eq_of_beq_eq_true:=@Nat.eq_of_beq_eq_true
theorem Qj:type_of% @Option.some.injEq:=@Option.some.injEq
theorem Qk:type_of% @Bool.and_eq_true:=@Bool.and_eq_true
theorem Ql:type_of% @Result.andThen_ok:=@Result.andThen_ok
theorem Qm:type_of% @List.getElem?_eq_getElem:=@List.getElem?_eq_getElem
theorem Qn:type_of% @Nat.le_refl:=@Nat.le_refl
theorem Qo:type_of% @Prod.mk.injEq:=@Prod.mk.injEq
theorem Qp:type_of% @Array.getElem?_eq_some_iff:=@Array.getElem?_eq_some_iff
theorem Qq:type_of% @List.getElem?_append_left:=@List.getElem?_append_left
theorem Qr:type_of% @Sem.run_bind:=@Sem.run_bind
theorem Qs:type_of% @List.getElem?_set_self:=@List.getElem?_set_self
theorem Qu:type_of% @Sem.run_pure:=@Sem.run_pure
theorem Qv:type_of% @decide_eq_true_eq:=@decide_eq_true_eq
theorem Qx:type_of% @List.getElem?_append_right:=@List.getElem?_append_right
theorem Qy:type_of% @List.getD_eq_getElem?_getD:=@List.getD_eq_getElem?_getD
theorem Qz:type_of% @List.length_cons:=@List.length_cons
theorem RF:type_of% @Int.natCast_nonneg:=@Int.natCast_nonneg
theorem RG:type_of% @List.getElem?_set_ne:=@List.getElem?_set_ne
theorem RH:type_of% @List.length_append:=@List.length_append
theorem RI:type_of% @And.intro:=@And.intro
theorem RJ:type_of% @Nat.lt_or_ge:=@Nat.lt_or_ge
theorem RN:type_of% @Nat.zero_le:=@Nat.zero_le
theorem RP:type_of% @Array.getElem?_setIfInBounds_self_of_lt:=@Array.getElem?_setIfInBounds_self_of_lt
theorem RQ:type_of% @decide_eq_true:=@decide_eq_true
theorem RS:type_of% @Option.map_eq_some_iff:=@Option.map_eq_some_iff
theorem RU:type_of% @Array.getElem?_setIfInBounds_ne:=@Array.getElem?_setIfInBounds_ne
theorem RX:type_of% @List.getElem?_map:=@List.getElem?_map
theorem RY:type_of% @List.length_nil:=@List.length_nil
theorem RZ:type_of% @Nat.zero_add:=@Nat.zero_add
theorem Rf:type_of% @if_pos:=@if_pos
theorem Rh:type_of% @List.length_map:=@List.length_map
theorem Ri:type_of% @Nat.beq_refl:=@Nat.beq_refl
theorem Rj:type_of% @List.set_cons_succ:=@List.set_cons_succ
theorem Rk:type_of% @True.intro:=@True.intro
theorem Rl:type_of% @List.append_assoc:=@List.append_assoc
theorem Rn:type_of% @List.getElem?_eq_none:=@List.getElem?_eq_none
theorem Ro:type_of% @List.mem_of_getElem?:=@List.mem_of_getElem?
theorem Rt:type_of% @List.set_cons_zero:=@List.set_cons_zero
theorem Ru:type_of% @List.map_cons:=@List.map_cons
theorem Rw:type_of% @if_neg:=@if_neg
theorem Rx:type_of% @List.flatten_cons:=@List.flatten_cons
theorem Ry:type_of% @Bool.false_eq_true:=@Bool.false_eq_true
theorem S9:type_of% @Nat.blt_eq:=@Nat.blt_eq
theorem SA:type_of% @Nat.add_mul:=@Nat.add_mul
theorem SB:type_of% @List.getElem?_take:=@List.getElem?_take
theorem SC:type_of% @Nat.le_trans:=@Nat.le_trans
theorem SE:type_of% @Nat.mul_one:=@Nat.mul_one
theorem SG:type_of% @if_true:=@if_true
theorem SH:type_of% @Nat.le_of_ble_eq_true:=@Nat.le_of_ble_eq_true
theorem SI:type_of% @List.getElem?_drop:=@List.getElem?_drop
theorem SK:type_of% @List.take_length:=@List.take_length
theorem SL:type_of% @List.eq_nil_of_length_eq_zero:=@List.eq_nil_of_length_eq_zero
theorem SN:type_of% @List.getElem?_of_mem:=@List.getElem?_of_mem
theorem SQ:type_of% @Int.toNat_natCast:=@Int.toNat_natCast
theorem SS:type_of% @List.length_set:=@List.length_set
theorem SV:type_of% @List.length_reverse:=@List.length_reverse
theorem SX:type_of% @Array.length_toList:=@Array.length_toList
theorem SY:type_of% @if_false:=@if_false
theorem Si:type_of% @List.mem_cons:=@List.mem_cons
theorem Sj:type_of% @List.nodup_cons:=@List.nodup_cons
theorem Sl:type_of% @List.map_append:=@List.map_append
theorem Sm:type_of% @Nat.add_zero:=@Nat.add_zero
theorem Sv:type_of% @Nat.le_succ:=@Nat.le_succ
theorem Sz:type_of% @Int.toNat_of_nonneg:=@Int.toNat_of_nonneg
theorem TA:type_of% @List.all_eq_true:=@List.all_eq_true
theorem TB:type_of% @heap_alloc_old:=@heap_alloc_old
theorem TD:type_of% @Option.isNone_some:=@Option.isNone_some
theorem TF:type_of% @Option.isNone_none:=@Option.isNone_none
theorem TG:type_of% @Nat.lt_of_lt_of_le:=@Nat.lt_of_lt_of_le
theorem TI:type_of% @List.mem_append:=@List.mem_append
theorem TJ:type_of% @List.map_nil:=@List.map_nil
theorem TK:type_of% @List.mem_or_eq_of_mem_set:=@List.mem_or_eq_of_mem_set
theorem TL:type_of% @List.range'_succ:=@List.range'_succ
abbrev A5:=List UInt8
abbrev QP:=List Int
abbrev QQ:=List Nat
abbrev QR:=List (Nat×Nat)
abbrev Qf:=List Value
abbrev Qt:=Option Nat
abbrev R0:=Array Oper
abbrev R1:=List Oper
abbrev R2:=Array Value
abbrev R4:=List PanicEntry
abbrev R5:=Array Bool
end Go
namespace Go.Gar
inductive D where
 |b (x:Bool)
 |i (k:IntKind) (n:Int)
 |s (l:A5)
 |f (k:FloatKind) (x:Nat)
 |agg (cs:List D)
 |tup (cs:List D)
 |by(l:A5)
 |is (l:QP)
 |sl (sz:Nat) (es:List (List D))
 |np
 |nf
 |ni
 |nm
 |ifc (t:TypeId) (x:Value)
 |raw (x:Value)
 deriving Inhabited
abbrev R6:=List D
abbrev Mem:=Nat->Nat->Option Value
def L2(m:Mem)(vs:Qf)(v:Value):Prop:=
 ∃a cap,v= .slice a vs.length cap/\vs.length<=cap/\(vs=[]\/∃b off,a=some ⟨b,off,none⟩/\∀(k:Nat)(x:Value),vs[k]? =some x->m b (off+k)=some x)
variable {m:Mem}
theorem L2.mono{m':Mem}(h:∀b k v,m b k=some v->m' b k=some v){vs:Qf}{v:Value}(r:L2 m vs v):L2 m' vs v:=by
 obtain⟨a,cap,hv,hl,hr⟩:=r;refine⟨a,cap,hv,hl,hr.imp id ?_⟩;rintro⟨b,off,ha,he⟩;exact⟨b,off,ha,fun k x hx=>h _ _ _ (he k x hx)⟩
def JL(l:A5):Qf:=l.map fun x=> .int .u8 (x.toNat:Int)
def QB(l:QP):Qf:=l.map fun x=> .int .i64 x
mutual
def RD(m:Mem):D->Value->Prop
 | .b x,v=>v= .bool x
 | .i k n,v=>v= .int k n
 | .s l,v=>v= .string ⟨l.toArray⟩
 | .f k x,v=>v= .float k x
 | .agg cs,v=>∃vs:Qf,v= .agg vs.toArray/\BJ m cs vs
 | .tup cs,v=>∃vs:Qf,v= .tuple vs.toArray/\BJ m cs vs
 | .by l,v=>L2 m (JL l) v
 | .is l,v=>L2 m (QB l) v
 | .sl sz es,v=>∃a cap,v= .slice a es.length cap/\es.length<=cap/\(es=[]\/∃b off,a=some ⟨b,off,none⟩/\Ha m sz es b off)
 | .np,v=>v= .pointer none
 | .nf,v=>v= .nilFunc
 | .ni,v=>v= .nilIface
 | .nm,v=>v= .map none
 | .ifc t x,v=>v= .iface t x
 | .raw x,v=>v=x/\x.oneCell'=true
def BJ(m:Mem):R6->Qf->Prop
 |[],vs=>vs=[]
 |d::ds,vs=>∃v r,vs=v::r/\RD m d v/\BJ m ds r
def EP(m:Mem):R6->Nat->Nat->Prop
 |[],_,_=>True
 |d::ds,b,off=>(∃v,m b off=some v/\v.oneCell'=true/\RD m d v)/\EP m ds b (off+1)
def Ha(m:Mem)(sz:Nat):List (R6)->Nat->Nat->Prop
 |[],_,_=>True
 |e::es,b,off=>e.length=sz/\EP m e b off/\Ha m sz es b (off+sz)
end
def Mem.le(m m':Mem):Prop:=∀b k v,m b k=some v->m' b k=some v
theorem Mem.le_refl(m:Mem):m.le m:=fun _ _ _ h=>h
theorem Mem.le_trans{a b c:Mem}(h:a.le b)(k:b.le c):a.le c:=fun x y z hz=>k x y z (h x y z hz)
mutual
theorem RD.mono{m m':Mem}(h:m.le m'):∀{d:D}{v:Value},RD m d v->RD m' d v
 | .b _,_,r=>by simpa[RD]using r
 | .i _ _,_,r=>by simpa[RD]using r
 | .s _,_,r=>by simpa[RD]using r
 | .f _ _,_,r=>by simpa[RD]using r
 | .agg _,_,r| .tup _,_,r=>by
  simp only[RD]at r|-;obtain⟨vs,hv,hr⟩:=r;exact⟨vs,hv,BJ.mono h hr⟩
 | .by l,v,r=>by simp only[RD]at r|-;exact r.mono h
 | .is l,v,r=>by simp only[RD]at r|-;exact r.mono h
 | .sl sz es,v,r=>by
  simp only[RD]at r|-;obtain⟨a,cap,hv,hl,hr⟩:=r;refine⟨a,cap,hv,hl,hr.imp id ?_⟩;rintro⟨b,off,ha,he⟩;exact⟨b,off,ha,Ha.mono h he⟩
 | .np,_,r=>by simpa[RD]using r
 | .nf,_,r=>by simpa[RD]using r
 | .ni,_,r=>by simpa[RD]using r
 | .nm,_,r=>by simpa[RD]using r
 | .ifc _ _,_,r=>by simpa[RD]using r
 | .raw _,_,r=>by simpa[RD]using r
theorem BJ.mono{m m':Mem}(h:m.le m'):∀{ds:R6}{vs:Qf},BJ m ds vs->BJ m' ds vs
 |[],_,r=>by simpa[BJ]using r
 |d::ds,vs,r=>by
  simp only[BJ]at r|-;obtain⟨v,q,hv,hd,hr⟩:=r;exact⟨v,q,hv,RD.mono h hd,BJ.mono h hr⟩
theorem EP.mono{m m':Mem}(h:m.le m'):∀{ds:R6}{b off:Nat},EP m ds b off->EP m' ds b off
 |[],_,_,_=>by simp[EP]
 |d::ds,b,off,r=>by
  simp only[EP]at r|-;obtain⟨⟨v,hm,h1,hd⟩,hr⟩:=r;exact⟨⟨v,h _ _ _ hm,h1,RD.mono h hd⟩,EP.mono h hr⟩
theorem Ha.mono{m m':Mem}(h:m.le m'){sz:Nat}:∀{es:List (R6)}{b off:Nat},Ha m sz es b off->Ha m' sz es b off
 |[],_,_,_=>by simp[Ha]
 |e::es,b,off,r=>by
  simp only[Ha]at r|-;obtain⟨hl,hc,hr⟩:=r;exact⟨hl,EP.mono h hc,Ha.mono h hr⟩
end
def AI:D->Nat
 | .by l=>l.length
 | .is l=>l.length
 | .sl _ es=>es.length
 |_=>0
def AU:D->Nat
 | .sl sz _=>sz
 |_=>1
def slc:D->R6
 | .by l=>l.map fun x=> .i .u8 (x.toNat:Int)
 | .is l=>l.map fun x=> .i .i64 x
 | .sl _ es=>es.flatten
 |_=>[]
def Af:D->Bool
 | .by _| .is _| .sl _ _=>true
 |_=>false
def AX:D->Prop
 | .sl sz es=>∀e∈es,e.length=sz
 |_=>True
theorem CI{x:D}(hs:Af x=true)(ho:AX x):(slc x).length=AI x*AU x:=by
 cases x<;>simp[Af]at hs<;>simp[slc,AI,AU];rename_i sz es;simp only[AX]at ho;clear hs
 induction es with
 |nil=>simp
 |cons e r ih=>
  have:=ih (fun x hx=>ho x (by simp[hx]));simp[this,ho e sm,SA];omega
theorem Cc{m:Mem}{b:Nat}:∀{cs:R6}{off:Nat},EP m cs b off↔∀(k:Nat)(d:D),cs[k]? =some d->∃v,m b (off+k)=some v/\v.oneCell'=true/\RD m d v
 |[],off=>by simp[EP]
 |c::cs,off=>by
  simp only[EP];rw[Cc (cs:=cs)];constructor
  .rintro⟨h1,h2⟩ k d hd
   cases k with
   |zero=>simp at hd;subst hd;simpa using h1
   |succ k=>have:=h2 k d (by simpa using hd);rwa [show off+(k+1)=off+1+k by omega]
  .intro h;refine⟨by simpa using h 0 c sm,fun k d hd=> ?_⟩;have:=h (k+1) d (by simpa using hd);rwa [show off+1+k=off+(k+1)by omega]
theorem GA{m:Mem}{b:Nat}:∀{xs ys:R6}{off:Nat},EP m (xs++ys) b off↔EP m xs b off/\EP m ys b (off+xs.length)
 |[],ys,off=>by simp[EP]
 |x::xs,ys,off=>by
  simp only[List.cons_append,EP,Qz];rw[GA (xs:=xs),show off+1+xs.length=off+(xs.length+1)by omega,and_assoc]
theorem EQ{m:Mem}{sz b:Nat}:∀{es:List (R6)}{off:Nat},Ha m sz es b off↔(∀e∈es,e.length=sz)/\EP m es.flatten b off
 |[],off=>by simp[Ha,EP]
 |e::es,off=>by
  simp only[Ha,Rx];rw[GA,EQ (es:=es)];constructor
  .rintro⟨h1,h2,h3,h4⟩;refine⟨fun x hx=> ?_,h2,by rw[h1];exact h4⟩;rcases Si.1 hx with rfl|hx
   .exact h1
   .exact h3 x hx
  .rintro⟨h1,h2,h3⟩;have he:=h1 e sm;exact⟨he,h2,fun x hx=>h1 x (by simp[hx]),by rw[<-he];exact h3⟩
theorem Bm{x:D}(hs:Af x=true){v:Value}:RD m x v↔∃a cap,v= .slice a (AI x) cap/\AI x<=cap/\AX x/\
  (AI x=0\/∃b off,a=some ⟨b,off,none⟩/\∀(k:Nat)(d:D),(slc x)[k]? =some d->∃u,m b (off+k)=some u/\u.oneCell'=true/\RD m d u):=by
 cases x<;>simp[Af]at hs
 .rename_i l;simp only[RD,L2,AI,slc,JL,AX,Rh,true_and];constructor
  .rintro⟨a,cap,h1,h2,h3⟩;refine⟨a,cap,h1,h2,h3.imp sm ?_⟩;rintro⟨b,off,ha,hb⟩;refine⟨b,off,ha,fun k d hd=> ?_⟩;simp only[RX,RS]at hd;obtain⟨q,hq,rfl⟩:=hd;exact⟨.int .u8 q.toNat,hb k _ (by simp[hq]),rfl,by simp[RD]⟩
  .rintro⟨a,cap,h1,h2,h3⟩;refine⟨a,cap,h1,h2,h3.imp sm ?_⟩;rintro⟨b,off,ha,hb⟩;refine⟨b,off,ha,fun k x hx=> ?_⟩;simp only[RX,RS]at hx;obtain⟨q,hq,rfl⟩:=hx;obtain⟨u,hu,_,hr⟩:=hb k (.i .u8 q.toNat) (by simp[hq]);simp only[RD]at hr;rw[hu,hr]
 .rename_i l;simp only[RD,L2,AI,slc,QB,AX,Rh,true_and];constructor
  .rintro⟨a,cap,h1,h2,h3⟩;refine⟨a,cap,h1,h2,h3.imp sm ?_⟩;rintro⟨b,off,ha,hb⟩;refine⟨b,off,ha,fun k d hd=> ?_⟩;simp only[RX,RS]at hd;obtain⟨q,hq,rfl⟩:=hd;exact⟨.int .i64 q,hb k _ (by simp[hq]),rfl,by simp[RD]⟩
  .rintro⟨a,cap,h1,h2,h3⟩;refine⟨a,cap,h1,h2,h3.imp sm ?_⟩;rintro⟨b,off,ha,hb⟩;refine⟨b,off,ha,fun k x hx=> ?_⟩;simp only[RX,RS]at hx;obtain⟨q,hq,rfl⟩:=hx;obtain⟨u,hu,_,hr⟩:=hb k (.i .i64 q) (by simp[hq]);simp only[RD]at hr;rw[hu,hr]
 .rename_i sz es;simp only[RD,AI,slc,AX];constructor
  .rintro⟨a,cap,h1,h2,h3⟩;rcases h3 with h3|⟨b,off,ha,hb⟩
   .subst h3;exact⟨a,cap,h1,h2,sm,sm⟩
   .rw[EQ]at hb;exact⟨a,cap,h1,h2,hb.1,.inr ⟨b,off,ha,Cc.1 hb.2⟩⟩
  .rintro⟨a,cap,h1,h2,h3,h4⟩;refine⟨a,cap,h1,h2,h4.imp sm ?_⟩;rintro⟨b,off,ha,hb⟩;exact⟨b,off,ha,EQ.2 ⟨h3,Cc.2 hb⟩⟩
inductive AV where
 |d (x:D)
 |u
 |ptr (id off cnt:Nat)
 |sl (id n sz:Nat)
 |bs (id off n sz cnt:Nat)
 |ep (id i off n sz:Nat)
 |e0
 |ag (cs:List AV)
 |tup (cs:List AV)
 |fn (f:Fn) (first cap:List AV)
 |yl (id:Nat)
 |dp (cs:R6)
 |mp (id:Nat)
 deriving Inhabited
abbrev RL:=List (D×AV)
abbrev RB:=Option (Bool×AV)
abbrev RA:=Option AV
abbrev R9:=List (Nat×AV)
abbrev R8:=List AV
structure Lp where
 state:LoopState
 pending:Option Code
 fn:FuncId
 n:Nat
 env:R9
 params:Array Tmp
 assign:Code
 body:Code
inductive A2 where
 |gone
 |c (cs:R8)
 |a (x:D)
 |m (es:RL)
 |lp (r:Lp)
 |D5 (b N:Nat) (l:A5)
 |many (rs:List (Option (Nat×Nat×A5)))
abbrev RE:=List A2
def A2.LR:A2->Bool
 | .lp _=>true
 |_=>false
def A2.live:A2->Bool
 | .gone| .many _=>false
 |_=>true
def BX(rs:List (Option (Nat×Nat×A5))):QQ:=rs.filterMap fun r=>r.map (·.1)
variable {b:Nat}
theorem C4{rs:List (Option (Nat×Nat×A5))}:b∈BX rs↔∃N l,some (b,N,l)∈rs:=by
 simp only[BX,List.mem_filterMap,RS];constructor
 .rintro⟨_,h,⟨b',N,l⟩,rfl,rfl⟩;exact⟨N,l,h⟩
 .rintro⟨N,l,h⟩;exact⟨_,h,(b,N,l),rfl,rfl⟩
structure Gh where
 ρ:Nat->Option (Nat×Nat)
 H:RE
 m:Mem
mutual
def RV(G:Gh):AV->Value->Prop
 | .d x,v=>RD G.m x v
 | .u,_=>True
 | .ptr id off cnt,v=>v.oneCell'=true/\∃blk,G.H[id]? =some blk/\
   match blk with
   | .gone=>True
   | .c cs=>cs.length=cnt/\∃b n,G.ρ id=some (b,n)/\v= .pointer (some ⟨b,off,none⟩)
   |_=>False
 | .sl id n sz,v=>v.oneCell'=true/\∃blk,G.H[id]? =some blk/\
   match blk with
   | .gone=>True
   | .a x=>AU x=sz/\n<=AI x/\(n=AI x->(n=0/\∃a,v= .slice a 0 0)\/∃b N cap,G.ρ id=some (b,N)/\v= .slice (some ⟨b,0,none⟩) n cap/\n<=cap/\cap<=maxLen/\N=cap*sz)
   |_=>False
 | .bs id off n sz cnt,v=>v.oneCell'=true/\∃blk,G.H[id]? =some blk/\
   match blk with
   | .gone=>True
   | .c cs=>cs.length=cnt/\off+n*sz<=cnt/\∃b N cap,G.ρ id=some (b,N)/\v= .slice (some ⟨b,off,none⟩) n cap/\n<=cap/\off+cap*sz<=N
   |_=>False
 | .ep id i off n sz,v=>v.oneCell'=true/\∃blk,G.H[id]? =some blk/\
   match blk with
   | .gone=>True
   | .a x=>AU x=sz/\n<=AI x/\(n=AI x->∃b N,G.ρ id=some (b,N)/\v= .pointer (some ⟨b,i*sz+off,none⟩))
   |_=>False
 | .e0,v=>∃a,v= .slice a 0 0
 | .ag cs,v=>∃vs:Qf,v= .agg vs.toArray/\AH G cs vs
 | .tup cs,v=>∃vs:Qf,v= .tuple vs.toArray/\AH G cs vs
 | .fn f first cap,v=>∃p q:Qf,v= .func f p.toArray q.toArray/\AH G first p/\AH G cap q
 | .yl id,v=>v.oneCell'=true/\∃blk,G.H[id]? =some blk/\
   match blk with
   | .gone=>True
   | .lp _=>∃b n,G.ρ id=some (b,n)/\v= .func (.yield b) #[] #[]
   |_=>False
 | .dp cs,v=>∃b off,v= .pointer (some ⟨b,off,none⟩)/\EP G.m cs b off
 | .mp id,v=>v.oneCell'=true/\∃blk,G.H[id]? =some blk/\
   match blk with
   | .gone=>True
   | .m _=>∃b n,G.ρ id=some (b,n)/\v= .map (some b)
   |_=>False
def AH(G:Gh):R8->Qf->Prop
 |[],vs=>vs=[]
 |d::ds,vs=>∃v r,vs=v::r/\RV G d v/\AH G ds r
end
def A6(G G':Gh)(id:Nat):A2->A2->Prop
 | .lp _,.gone=>False
 |_,.gone=>True
 | .c cs,.c cs'=>cs'.length=cs.length/\G'.ρ id=G.ρ id
 | .a x,.a x'=>AU x'=AU x/\AI x<=AI x'/\(AI x=AI x'->G'.ρ id=G.ρ id)
 | .m _,.m _=>G'.ρ id=G.ρ id
 | .lp r,.lp r'=>G'.ρ id=G.ρ id/\r'.fn=r.fn/\r'.n=r.n/\r'.env=r.env/\r'.params=r.params/\r'.assign=r.assign/\r'.body=r.body
 | .D5 b N l,.D5 b' N' l'=>b'=b/\N'=N/\l'.length=l.length/\G'.ρ id=G.ρ id
 | .many _,.many _=>True
 |_,_=>False
theorem A6.refl(G:Gh)(id:Nat)(b:A2):A6 G G id b b:=by
 cases b<;>simp[A6]
variable {G G':Gh}
theorem A6.trans{G'':Gh}{id:Nat}{a b c:A2}(h:A6 G G' id a b)(k:A6 G' G'' id b c):A6 G G'' id a c:=by
 cases c with
 |gone=>cases a<;>cases b<;>simp_all[A6]
 |c cs=>
  cases b<;>simp only[A6]at k;cases a<;>simp only[A6]at h;exact⟨k.1.trans h.1,k.2.trans h.2⟩
 |a x=>
  cases b<;>simp only[A6]at k;cases a<;>simp only[A6]at h;obtain⟨h1,h2,h3⟩:=h;obtain⟨k1,k2,k3⟩:=k;exact⟨k1.trans h1,SC h2 k2,fun e=>(k3 om).trans (h3 om)⟩
 |m es=>
  cases b<;>simp only[A6]at k;cases a<;>simp only[A6]at h;exact k.trans h
 |lp r=>
  cases b<;>simp only[A6]at k;cases a<;>simp only[A6]at h;obtain⟨h1,h2,h3,h4,h5,h6,h7⟩:=h;obtain⟨k1,k2,k3,k4,k5,k6,k7⟩:=k;exact⟨k1.trans h1,k2.trans h2,k3.trans h3,k4.trans h4,k5.trans h5,k6.trans h6,k7.trans h7⟩
 |D5 _ _ _=>
  cases b<;>simp only[A6]at k;cases a<;>simp only[A6]at h;obtain⟨h1,h2,h3,h4⟩:=h;obtain⟨k1,k2,k3,k4⟩:=k;exact⟨k1.trans h1,k2.trans h2,k3.trans h3,k4.trans h4⟩
 |many _=>cases b<;>cases a<;>simp_all[A6]
structure DN (G G':Gh):Prop where
 blk:∀id b,G.H[id]? =some b->∃b',G'.H[id]? =some b'/\A6 G G' id b b'
 mem:G.m.le G'.m
theorem DN.refl(G:Gh):DN G G:=⟨fun id b h=>⟨b,h,A6.refl G id b⟩,Mem.le_refl _⟩
theorem DN.trans{a b c:Gh}(h:DN a b)(k:DN b c):DN a c:=
 ⟨fun id p hx=>by
  obtain⟨y,hy,s⟩:=h.blk id p hx;obtain⟨z,hz,t⟩:=k.blk id y hy
  exact⟨z,hz,s.trans t⟩,Mem.le_trans h.mem k.mem⟩
theorem DN.len(h:DN G G'):G.H.length<=G'.H.length:=by
 rcases RJ G'.H.length G.H.length with hlt|hge
 .have hx:G.H[G'.H.length]? =some G.H[G'.H.length]:=by simp[hlt]
  obtain⟨b',hb',_⟩:=h.blk _ _ hx;simp at hb'
 .exact hge
mutual
theorem RV.mono{G G':Gh}(h:DN G G'):∀{x:AV}{v:Value},RV G x v->RV G' x v
 | .d x,v,r=>by simp only[RV]at r|-;exact RD.mono h.mem r
 | .u,_,_=>by simp[RV]
 | .ptr id off cnt,v,r=>by
  simp only[RV]at r|-;obtain⟨h1c,blk,hb,hr⟩:=r;obtain⟨blk',hb',hs⟩:=h.blk _ _ hb;refine⟨h1c,blk',hb',?_⟩
  cases blk' with
  |gone=>trivial
  |c cs=>
   cases blk<;>simp only[A6]at hs;obtain⟨hl,b,n,hρ,hv⟩:=hr;exact⟨hs.1.trans hl,b,n,hs.2.trans hρ,hv⟩
  |a _|m _|lp _|D5 _ _ _|many _=>cases blk<;>simp_all[A6]
 | .sl _ _ _,_,r| .ep _ _ _ _ _,_,r=>by
  simp only[RV]at r|-;obtain⟨h1c,blk,hb,hr⟩:=r;obtain⟨blk',hb',hs⟩:=h.blk _ _ hb;refine⟨h1c,blk',hb',?_⟩
  cases blk' with
  |gone=>trivial
  |a x'=>
   cases blk<;>simp only[A6]at hs;obtain⟨h1,h2,h3⟩:=hr;obtain⟨s1,s2,s3⟩:=hs;refine⟨s1.trans h1,om,fun e=> ?_⟩;have e2:=h3 om;rw[s3 om];exact e2
  |c _|m _|lp _|D5 _ _ _|many _=>cases blk<;>simp_all[A6]
 | .bs id off n sz cnt,v,r=>by
  simp only[RV]at r|-;obtain⟨h1c,blk,hb,hr⟩:=r;obtain⟨blk',hb',hs⟩:=h.blk _ _ hb;refine⟨h1c,blk',hb',?_⟩
  cases blk' with
  |gone=>trivial
  |c cs=>
   cases blk<;>simp only[A6]at hs;obtain⟨hl,ho,b,N,cap,hρ,hv⟩:=hr;exact⟨hs.1.trans hl,ho,b,N,cap,hs.2.trans hρ,hv⟩
  |a _|m _|lp _|D5 _ _ _|many _=>cases blk<;>simp_all[A6]
 | .e0,_,r=>by simpa[RV]using r
 | .ag _,_,r| .tup _,_,r=>by
  simp only[RV]at r|-;obtain⟨vs,hv,hr⟩:=r;exact⟨vs,hv,AH.mono h hr⟩
 | .fn f first cap,v,r=>by
  simp only[RV]at r|-;obtain⟨p,q,hv,hp,hq⟩:=r;exact⟨p,q,hv,AH.mono h hp,AH.mono h hq⟩
 | .yl id,v,r=>by
  simp only[RV]at r|-;obtain⟨h1c,blk,hb,hr⟩:=r;obtain⟨blk',hb',hs⟩:=h.blk _ _ hb;refine⟨h1c,blk',hb',?_⟩
  cases blk' with
  |gone=>trivial
  |lp r'=>
   cases blk<;>simp only[A6]at hs;obtain⟨b,n,hρ,hv⟩:=hr;exact⟨b,n,hs.1.trans hρ,hv⟩
  |a _|m _|c _|D5 _ _ _|many _=>cases blk<;>simp_all[A6]
 | .dp cs,v,r=>by
  simp only[RV]at r|-;obtain⟨b,off,hv,hr⟩:=r;exact⟨b,off,hv,EP.mono h.mem hr⟩
 | .mp id,v,r=>by
  simp only[RV]at r|-;obtain⟨h1c,blk,hb,hr⟩:=r;obtain⟨blk',hb',hs⟩:=h.blk _ _ hb;refine⟨h1c,blk',hb',?_⟩
  cases blk' with
  |gone=>trivial
  |m es=>
   cases blk<;>simp only[A6]at hs;obtain⟨b,n,hρ,hv⟩:=hr;exact⟨b,n,hs.trans hρ,hv⟩
  |a _|lp _|c _|D5 _ _ _|many _=>cases blk<;>simp_all[A6]
theorem AH.mono{G G':Gh}(h:DN G G'):∀{xs:R8}{vs:Qf},AH G xs vs->AH G' xs vs
 |[],_,r=>by simpa[AH]using r
 |x::xs,vs,r=>by
  simp only[AH]at r|-;obtain⟨v,q,hv,hd,hr⟩:=r;exact⟨v,q,hv,RV.mono h hd,AH.mono h hr⟩
end
def get:R9->Nat->RA
 |[],_=>none
 |(k,v)::r,n=>if Nat.beq k n then some v else get r n
def Cj(G:Gh)(env:R9)(tmps:R2):Prop:=∀t x,get env t=some x->∃v,tmps[t]? =some v/\RV G x v
theorem Cj.mono(h:DN G G'){env:R9}{tmps:R2}(r:Cj G env tmps):Cj G' env tmps:=
 fun t x hx=>let⟨v,hv,hr⟩:=r t x hx;⟨v,hv,hr.mono h⟩
def BR(G:Gh)(w:World)(id:Nat):A2->Prop
 | .gone=>True
 | .c cs=>∃b N vs T,G.ρ id=some (b,N)/\w.heap[b]? =some (.cells vs T (0,0))/\vs.size=N/\cs.length<=N/\(∀(k:Nat)(x:AV),cs[k]? =some x->∃v,vs[k]? =some v/\RV G x v)
 | .a x=>Af x=true/\AX x/\((AI x=0/\G.ρ id=none)\/∃b N vs T,G.ρ id=some (b,N)/\w.heap[b]? =some (.cells vs T (0,0))/\vs.size=N/\
   (∀(k:Nat)(d:D),(slc x)[k]? =some d->∃v,vs[k]? =some v/\v.oneCell'=true/\RD G.m d v))
 | .m es=>∃b N ms clock,G.ρ id=some (b,N)/\w.heap[b]? =some (.map ms clock)/\ms.size=es.length/\
   (∀(k:Nat)(q:D×AV),es[k]? =some q->∃e:MapEntry,ms[k]? =some e/\RD G.m q.1 e.key/\RV G q.2 e.val)
 | .lp r=>∃l N,∃df:Nat×FuncId,∃tmps,G.ρ id=some (l,N)/\
   w.heap[l]? =some (.loop {state:=r.state,pending:=r.pending,fn:=df.2,tmps:=tmps,params:=r.params,assign:=r.assign,body:=r.body,defers:=df.1})/\
   tmps.size=r.n/\Cj G r.env tmps
 | .D5 b N l=>∃vs T,G.ρ id=some (b,N)/\w.heap[b]? =some (.cells vs T (0,0))/\vs.size=N/\l.length<=N/\∀(k:Nat)(x:UInt8),l[k]? =some x->vs[k]? =some (.int .u8 (x.toNat:Int))
 | .many rs=>∀b N l,some (b,N,l)∈rs->∃vs T,w.heap[b]? =some (.cells vs T (0,0))/\vs.size=N/\l.length<=N/\∀(k:Nat)(x:UInt8),l[k]? =some x->vs[k]? =some (.int .u8 (x.toNat:Int))
def B8(G:Gh)(b:Nat):Prop:=∃id N blk,G.H[id]? =some blk/\blk.live=true/\G.ρ id=some (b,N)
def PX(G:Gh)(b:Nat):Prop:=∃(id:Nat)(rs:List (Option (Nat×Nat×A5))),G.H[id]? =some (A2.many rs)/\b∈BX rs
def Own(G:Gh)(b:Nat):Prop:=B8 G b\/PX G b
theorem Dr(hS:∀(id:Nat)(rs:List (Option (Nat×Nat×A5))),G'.H[id]? =some (A2.many rs)->G.H[id]? =some (A2.many rs))(hP:∀b,B8 G' b->B8 G b):∀b,Own G' b->Own G b:=
 fun b h=>h.imp (hP b) fun⟨id,rs,h1,h2⟩=>⟨id,rs,hS id rs h1,h2⟩
theorem IA{n:Nat}(hS:∀(id:Nat)(rs:List (Option (Nat×Nat×A5))),G'.H[id]? =some (A2.many rs)->G.H[id]? =some (A2.many rs))(hP:∀b,B8 G' b->B8 G b\/b=n):∀b,Own G' b->Own G b\/b=n:=
 fun b h=>h.elim (fun h=>(hP b h).imp_left .inl) fun⟨id,rs,h1,h2⟩=> .inl (.inr ⟨id,rs,hS id rs h1,h2⟩)
variable {ρ:Nat->Option (Nat×Nat)}
theorem Ft:¬Own {ρ:=ρ,H:=[],m:=m} b:=by
 rintro(⟨id,N,q,hq,_⟩|⟨id,rs,hq,_⟩)<;>simp at hq
def Lu(G:Gh):Prop:=∀(id:Nat)(rs:List (Option (Nat×Nat×A5))),G.H[id]? =some (A2.many rs)->(BX rs).Nodup/\∀b,b∈BX rs->¬B8 G b/\∀(id':Nat)(rs':List (Option (Nat×Nat×A5))),G.H[id']? =some (A2.many rs')->b∈BX rs'->id'=id
theorem Is:Lu {ρ:=ρ,H:=[],m:=m}:=fun id rs h=>by simp at h
theorem Lu.of{n:Nat}(h:Lu G)(hlt:∀b,PX G b->b<n)(hS:∀(id:Nat)(rs:List (Option (Nat×Nat×A5))),G'.H[id]? =some (A2.many rs)->G.H[id]? =some (A2.many rs))(hP:∀b,B8 G' b->B8 G b\/n<=b):Lu G':=fun id rs hid=>by
 obtain⟨h1,h2⟩:=h id rs (hS id rs hid);refine⟨h1,fun b hb=>⟨fun ho=> ?_,fun id' rs' hi hb'=>(h2 b hb).2 id' rs' (hS id' rs' hi) hb'⟩⟩;rcases hP b ho with ho|ho
 .exact(h2 b hb).1 ho
 .have:=hlt b ⟨id,rs,hS id rs hid,hb⟩;omega
def OX:List (Nat×List (IntKind×Int)):=[]
def K1(b:Nat):List (Nat×List (IntKind×Int))->Option (List (IntKind×Int))
 |[]=>none
 |(k,l)::r=>if Nat.beq k b then some l else K1 b r
def Ky:Mem:=fun b k=>match K1 b OX with
 |some l=>(l.map fun p=>Value.int p.1 p.2)[k]?
 |none=>none
def Oe(m:Mem):Prop:=Ky.le m
def NE(g:Nat):RA:=match K1 g OX with
 |some l=>some (.dp (l.map fun p=> .i p.1 p.2))
 |none=>none
theorem NF(h:Oe G.m){g:Nat}{x:AV}(e:NE g=some x):RV G x (.pointer (some ⟨g,0,none⟩)):=by
 unfold NE at e;split at e
 .rename_i l hl;cases e;simp only[RV];refine⟨g,0,rfl,Cc.2 fun k d hd=> ?_⟩;simp only[RX,RS]at hd;obtain⟨p,hp,rfl⟩:=hd;refine⟨.int p.1 p.2,h g (0+k) _ ?_,rfl,by simp[RD]⟩;unfold Ky;rw[hl,RZ];simp[hp]
 .cases e
structure AD (G:Gh) (w:World):Prop where
 blk:∀id b,G.H[id]? =some b->BR G w id b
 inj:∀id id' p q b N N',G.H[id]? =some p->G.H[id']? =some q->p.live=true->q.live=true->G.ρ id=some (b,N)->G.ρ id'=some (b,N')->id=id'
 mem:∀b k v,G.m b k=some v->w.cell? ⟨b,k,none⟩=some v
 sep:∀b,Own G b->∀k,G.m b k=none
 st:Oe G.m
 mny:Lu G
theorem Ad{w:World}(h:AD G w)(ho:Own G b):b<w.heap.size:=by
 rcases ho with⟨id,N,blk,hb,hl,hρ⟩|⟨id,rs,hb,hr⟩
 case inr=>
  obtain⟨N,l,hm⟩:=C4.1 hr;obtain⟨vs,T,hw,_⟩:=h.blk id _ hb b N l hm;exact(Qp.1 hw).1
 have hB:=h.blk id blk hb;have key:∀{o},w.heap[b]? =some o->b<w.heap.size:=fun ho=>(Qp.1 ho).1
 cases blk with
 |gone=>simp[A2.live]at hl
 |many _=>simp[A2.live]at hl
 |c cs=>obtain⟨b',N',vs,T,hρ',hw,_⟩:=hB;rw[hρ]at hρ';cases hρ';exact key hw
 |a x=>
  rcases hB.2.2 with⟨_,hn⟩|⟨b',N',vs,T,hρ',hw,_⟩
  .rw[hρ]at hn;cases hn
  .rw[hρ]at hρ';cases hρ';exact key hw
 |m es=>obtain⟨b',N',ms,cl,hρ',hw,_⟩:=hB;rw[hρ]at hρ';cases hρ';exact key hw
 |lp r=>obtain⟨b',N',df,tmps,hρ',hw,_⟩:=hB;rw[hρ]at hρ';cases hρ';exact key hw
 |D5 b' N' l=>obtain⟨vs,T,hρ',hw,_⟩:=hB;rw[hρ]at hρ';cases hρ';exact key hw
structure BE (G:Gh) (w:World) (G':Gh) (w':World):Prop where
 os:w'.os=w.os
 tape:w'.tape=w.tape
 output:w'.output=w.output
 size:w.heap.size<=w'.heap.size
 keep:∀b,b<w.heap.size->¬Own G b->w'.heap[b]? =w.heap[b]?/\¬Own G' b
 memNew:∀b k v,G'.m b k=some v->G.m b k=some v\/Own G b\/w.heap.size<=b
 gle:DN G G'
theorem BE.refl(G:Gh)(w:World):BE G w G w:=
 ⟨rfl,rfl,rfl,Qn _,fun _ _ h=>⟨rfl,h⟩,fun _ _ _ h=> .inl h,DN.refl G⟩
theorem BE.trans{G'':Gh}{w w' w'':World}(h:BE G w G' w')(k:BE G' w' G'' w''):BE G w G'' w'' where
 os:=k.os.trans h.os
 tape:=k.tape.trans h.tape
 output:=k.output.trans h.output
 size:=SC h.size k.size
 keep b hb ho:=by
  obtain⟨h1,h2⟩:=h.keep b hb ho;obtain⟨k1,k2⟩:=k.keep b (TG hb h.size) h2;exact⟨k1.trans h1,k2⟩
 memNew b o v hv:=by
  rcases k.memNew b o v hv with k1|k1|k1
  .exact h.memNew b o v k1
  .rcases RJ b w.heap.size with hlt|hge
   .by_cases ho:Own G b
    .exact .inr (.inl ho)
    .exact absurd k1 (h.keep b hlt ho).2
   .exact .inr (.inr hge)
  .exact .inr (.inr (SC h.size k1))
 gle:=h.gle.trans k.gle
end Go.Gar
namespace Go.Gar
structure St where
 env:R9
 H:RE
 n:Nat
structure NB where
 n:Nat
 base:List Deferred:=[]
def Marks(N:NB)(G:Gh)(a:Act)(w:World):Prop:=
 N.n<=w.heap.size/\∃ms:QQ,a.defers=ms.map (fun r=>{target:=.collected r,args:=#[]})++N.base/\ms.Nodup/\∀r∈ms,N.n<=r/\w.heap[r]? =some (.deferred (some []))/\¬Own G r
structure Rel (ro:Qt) (N:NB) (S:St) (G:Gh) (a:Act) (w:World):Prop where
 heap:G.H=S.H
 rel:AD G w
 size:a.tmps.size=S.n
 env:Cj G S.env a.tmps
 marks:Marks N G a w
 round:∀id,ro=some id->∃r l N,S.H[id]? =some (.lp r)/\G.ρ id=some (l,N)
def FE(x:Qt):Fence:={fn:=fun _=>True,depth:=none,alive:=false,round:=x}
theorem CC(x:Qt):(FE x).depth.isSome=true->1<=0:=fun h=>by simp[FE]at h
def rl(G:Gh)(ro:Qt):Qt:=ro.bind fun id=>(G.ρ id).map (·.1)
variable {G:Gh}{w:World}
theorem Marks.Gz{N:NB}{G':Gh}{a a':Act}{w':World}(h:Marks N G a w)(k:BE G w G' w')(ha:a'.defers=a.defers):Marks N G' a' w':=by
 obtain⟨h0,ms,h1,h2,h3⟩:=h;refine⟨SC h0 k.size,ms,ha.trans h1,h2,fun r hr=> ?_⟩;obtain⟨hN,hw,ho⟩:=h3 r hr;obtain⟨k1,k2⟩:=k.keep r (Qp.1 hw).1 ho;exact⟨hN,k1.trans hw,k2⟩
theorem CH{ro:Qt}{N:NB}{S S':St}{G':Gh}{a a':Act}{w':World}(h:Rel ro N S G a w)(h':Rel ro N S' G' a' w')(k:BE G w G' w'):rl G' ro=rl G ro:=by
 cases ro with
 |none=>rfl
 |some id=>
  obtain⟨r,l,N,h1,h2⟩:=h.round id rfl;obtain⟨r',l',N',h1',h2'⟩:=h'.round id rfl;rw[<-h.heap]at h1;rw[<-h'.heap]at h1';obtain⟨b',hb',hs⟩:=k.gle.blk id _ h1;rw[h1']at hb';cases hb';simp only[A6]at hs;simp[rl,hs.1]
def Post(ro:Qt)(N:NB)(G:Gh)(w:World)(Q:Exit->St->Prop):Exit->Act->World->Prop:=
 fun e a' w'=>∃S' G',Q e S'/\Rel ro N S' G' a' w'/\BE G w G' w'
def W(P:Program)(ro:Qt)(c:Code)(S:St)(Q:Exit->St->Prop):Prop:=
 ∀N G a w,Rel ro N S G a w->c.wpIn (FE (rl G ro)) 0 P (Post ro N G w Q) a w
section
variable {P:Program}{ro:Qt}{S:St}{Q:Exit->St->Prop}
variable {N:NB}{G:Gh}{w:World}{Q':Exit->St->Prop}{e:Exit}{w':World}
theorem Post.mono(h:∀e S,Q e S->Q' e S){a':Act}(r:Post ro N G w Q e a' w'):Post ro N G w Q' e a' w':=
 let⟨S',G',q,r1,r2⟩:=r;⟨S',G',h _ _ q,r1,r2⟩
theorem Post.trans{G':Gh}(k:BE G w G' w'){a'':Act}{w'':World}(r:Post ro N G' w' Q e a'' w''):Post ro N G w Q e a'' w'':=
 let⟨S',G'',q,r1,r2⟩:=r;⟨S',G'',q,r1,k.trans r2⟩
variable {c:Code}
theorem W.mono(h:W P ro c S Q)(hq:∀e S,Q e S->Q' e S):W P ro c S Q':=
 fun N G a w r=>wpIn_mono (h N G a w r) fun _ _ _ p=>p.mono hq
theorem Ao(h:Q .normal S):W P ro .skip S Q:=fun _ G _ w r=>wpIn_skip ⟨S,G,h,r,BE.refl G w⟩
theorem Ba{l:Nat}(h:Q .normal S):W P ro (.label l) S Q:=fun _ G _ w r=>wpIn_label ⟨S,G,h,r,BE.refl G w⟩
theorem An{id:Nat}(h:Q (.exit id) S):W P ro (.exit id) S Q:=fun _ G _ w r=>wpIn_exit ⟨S,G,h,r,BE.refl G w⟩
theorem C9{l:Nat}(h:Q (.goto l) S):W P ro (.goto l) S Q:=fun _ G _ w r=>wpIn_goto ⟨S,G,h,r,BE.refl G w⟩
theorem BC(h:Q .ret S):W P ro .ret S Q:=fun _ G _ w r=>wpIn_ret ⟨S,G,h,r,BE.refl G w⟩
def H7(K:St->Prop)(Q:Exit->St->Prop):Exit->St->Prop
 | .normal,S=>K S
 |e,S=>Q e S
variable {x y:Code}
theorem BD(h:W P ro x S (H7 (fun S'=>W P ro y S' Q) Q)):W P ro (.seq x y) S Q:=by
 intro N G a w r;refine wpIn_seq (wpIn_mono (h N G a w r) ?_);rintro e a' w' ⟨S',G',q,r',k⟩
 cases e with
 |normal=>
  have q':W P ro y S' Q:=q;have hy:=q' N G' a' w' r';rw[CH r r' k]at hy;exact wpIn_mono hy fun _ _ _ p=>p.trans k
 |_=>exact⟨S',G',q,r',k⟩
def LX(f:Value->RA):Qf->Option (R8)
 |[]=>some []
 |v::vs=>match f v,LX f vs with|some x,some xs=>some (x::xs)|_,_=>none
def Jl:Value->RA
 | .bool b=>some (.d (.b b))
 | .int k n=>some (.d (.i k n))
 | .float k n=>some (.d (.f k n))
 | .string s=>some (.d (.s s.data.toList))
 | .pointer none=>some (.d .np)
 | .slice none 0 0=>some .e0
 | .map none=>some (.d .nm)
 | .nilFunc=>some (.d .nf)
 | .nilIface=>some (.d .ni)
 |_=>none
def QD:Value->RA
 | .agg vs=>(LX Jl vs.toList).map .ag
 |v=>Jl v
theorem I1{v:Value}{x:AV}(h:Jl v=some x):RV G x v:=by
 unfold Jl at h
 split at h<;>first
  |(cases h;simp[RV,RD];done)
  |(cases h;exact⟨none,rfl⟩)
  |simp at h
theorem OA{vs:Qf}{xs:R8}(h:LX Jl vs=some xs):AH G xs vs:=by
 induction vs generalizing xs with
 |nil=>simp[LX]at h;subst h;simp[AH]
 |cons v vs ih=>
  simp only[LX]at h;split at h
  .rename_i x q h1 h2;cases h;simp only[AH];exact⟨v,vs,rfl,I1 h1,ih h2⟩
  .cases h
theorem N4{v:Value}{x:AV}(h:QD v=some x):RV G x v:=by
 unfold QD at h;split at h
 .rename_i vs
  cases hx:LX Jl vs.toList with
  |none=>rw[hx]at h;cases h
  |some xs=>
   rw[hx]at h;cases h;simp only[RV];exact⟨vs.toList,sm,OA hx⟩
 .exact I1 h
def Bh(env:R9):Operand->RA
 | .tmp t=>get env t
 | .const v=>QD v
 | .func f=>some (.fn (.func f) [] [])
 | .global g=>NE g
variable {a:Act}
theorem AB{env:R9}(hst:Oe G.m)(h:Cj G env a.tmps){o:Operand}{x:AV}(hx:Bh env o=some x):RV G x (a.eval o):=by
 cases o with
 |tmp t=>
  obtain⟨v,hv,hr⟩:=h t x hx;have:a.eval (.tmp t)=v:=by simp[Act.eval,hv]
  rw[this];exact hr
 |const v=>exact N4 hx
 |func f=>
  simp only[Bh]at hx;cases hx;simp only[RV];exact⟨[],[],rfl,by simp[AH],by simp[AH]⟩
 |global g=>exact NF hst hx
theorem Aj{c:Operand}{t:Bool}(hc:Bh S.env c=some (.d (.b t)))(ht:t=true->W P ro x S Q)(hf:t=false->W P ro y S Q):W P ro (.cond c x y) S Q:=by
 intro N G a w r;have hv:a.eval c= .bool t:=by simpa[RV,RD]using AB r.rel.st r.env hc
 exact wpIn_cond_split hv (fun h=>ht h N G a w r) (fun h=>hf h N G a w r)
theorem AO{c:Operand}(hc:Bh S.env c=some (.d (.b true)))(h:W P ro x S Q):W P ro (.cond c x y) S Q:=
 Aj hc (fun _=>h) (fun e=>by cases e)
theorem AN{c:Operand}(hc:Bh S.env c=some (.d (.b false)))(h:W P ro y S Q):W P ro (.cond c x y) S Q:=
 Aj hc (fun e=>by cases e) (fun _=>h)
def F4(id:Nat)(Q:Exit->St->Prop):Exit->St->Prop
 | .exit id',S=>if Nat.beq id' id then Q .normal S else Q (.exit id') S
 |e,S=>Q e S
theorem AY{id:Nat}(h:W P ro c S (F4 id Q)):W P ro (.block id c) S Q:=by
 intro N G a w r;refine wpIn_block (wpIn_mono (h N G a w r) ?_);rintro e a' w' ⟨S',G',q,r',k⟩
 cases e with
 |exit id'=>
  simp only[F4]at q;simp only[Exit.inBlock]
  by_cases hid:id'=id
  .subst hid;simp only[Ri,SG]at q|-;exact⟨S',G',q,r',k⟩
  .have hb:Nat.beq id' id=false:=by
    cases hh:Nat.beq id' id with
    |false=>rfl
    |true=>exact absurd (Qi hh) hid
   rw[hb]at q;simp only[hid,SY];exact⟨S',G',q,r',k⟩
 |_=>exact⟨S',G',q,r',k⟩
structure IL (G G':Gh):Prop where
 blk:∀id b b',G.H[id]? =some b->G'.H[id]? =some b'->A6 G G' id b b'
 mem:G.m.le G'.m
 own:∀b,Own G' b->Own G b
 memNew:∀b k v,G'.m b k=some v->G.m b k=some v\/Own G b
def A3(S S':St):Prop:=∀ro N G a w,Rel ro N S G a w->(∀id,ro=some id->id<S'.H.length)->∃G',Rel ro N S' G' a w/\IL G G'
theorem BE.ghost{G' G'':Gh}(k:BE G w G' w')(t:IL G' G'')(hl:G.H.length<=G''.H.length):BE G w G'' w' where
 os:=k.os
 tape:=k.tape
 output:=k.output
 size:=k.size
 keep b hb ho:=⟨(k.keep b hb ho).1,fun h=>(k.keep b hb ho).2 (t.own b h)⟩
 memNew b o v hv:=by
  rcases t.memNew b o v hv with h|h
  .exact k.memNew b o v h
  .rcases RJ b w.heap.size with hlt|hge
   .by_cases ho:Own G b
    .exact .inr (.inl ho)
    .exact absurd h (k.keep b hlt ho).2
   .exact .inr (.inr hge)
 gle:=by
  refine⟨fun id b hb=> ?_,Mem.le_trans k.gle.mem t.mem⟩;obtain⟨b',hb',hs⟩:=k.gle.blk id b hb;have hid:id<G''.H.length:=TG (Qh.1 hb).1 hl;exact⟨G''.H[id],Qm hid,hs.trans (t.blk id b' _ hb' (Qm hid))⟩
theorem Rel.J1{S:St}(r:Rel ro N S G a w):∀id,ro=some id->id<S.H.length:=fun id h=>by
 obtain⟨q,l,N,h1,_⟩:=r.round id h;exact(Qh.1 h1).1
theorem Ae{S':St}(t:A3 S S')(hl:S.H.length<=S'.H.length)(h:W P ro c S' Q):W P ro c S Q:=by
 intro N G a w r;obtain⟨G',r',t'⟩:=t ro N G a w r (fun id h=>TG (r.J1 id h) hl);have k:BE G w G' w:=(BE.refl G w).ghost t' (by rw[r.heap,r'.heap];exact hl);have hy:=h N G' a w r';rw[CH r r' k]at hy;exact wpIn_mono hy fun _ _ _ p=>p.trans k
theorem Ni(h:W P ro c S Q)(hq:∀e S',Q e S'->∃S'',A3 S' S''/\S.H.length<=S''.H.length/\Q' e S''):W P ro c S Q':=by
 intro N G a w r;refine wpIn_mono (h N G a w r) ?_;rintro e a' w' ⟨S',G',q,r',k⟩;obtain⟨S'',t,hl,q'⟩:=hq e S' q;obtain⟨G'',r'',t'⟩:=t ro N G' a' w' r' (fun id h=>TG (r.J1 id h) hl);exact⟨S'',G'',q',r'',k.ghost t' (by rw[r.heap,r''.heap];exact hl)⟩
variable {α:Type}
def Oc(St0:α->St)(lt:α->Prop)(k:Nat)(Q:Exit->St->Prop):Exit->St->Prop
 | .normal,S'=>∃y,lt y/\k<=(St0 y).H.length/\A3 S' (St0 y)
 |e,S'=>Q e S'
theorem K6{F:Fence}{n:Nat}{Q:Exit->Act->World->Prop}(I:α->Act->World->Prop)(μ:α->Nat)(x0:α)(h₀:I x0 a w)(round:∀x a w,I x a w->c.wpIn F n P (Exit.then (fun a' w'=>∃y,I y a' w'/\μ y<μ x) Q) a w):(Code.loop c).wpIn F n P Q a w:=by
 intro b k cs hro hb hr
 have key:∀j x a w,μ x=j->I x a w->
   ∃e a' w',Q e a' w'/\ArrivesIn (Machine.fenced P F) P (lone (b.atR a (.code c:: .inLoop c::k)) cs w) b k cs e a' w':=by
  intro j
  induction j using Nat.strongRecOn with
  |_ j ih=>
   intro x a w hn hI;obtain⟨e,a₁,w₁,hq,harr⟩:=round x a w hI b (.inLoop c::k) cs hro hb hr
   cases e with
   |normal=>
    obtain⟨y,hI₁,hlt⟩:=hq;obtain⟨e₂,a₂,w₂,hq₂,harr₂⟩:=ih (μ y) (hn▸hlt) y a₁ w₁ rfl hI₁;exact⟨e₂,a₂,w₂,hq₂,.of_steps (StepsIn.trans harr (.one (fenced_calm (fr:=b.atR a₁ (.inLoop c::k)) hb hr rfl) stepR_inLoop)) harr₂⟩
   |exit id|goto l|ret|panic ch|outgrown=>exact⟨_,a₁,w₁,hq,.pass (x:=.inLoop c) rfl (fun _ _=> .inl sm) harr⟩
 obtain⟨e,a',w',hq,harr⟩:=key _ x0 a w rfl h₀;exact⟨e,a',w',hq,.of_steps (.one (fenced_calm (fr:=b.atR a (.code (.loop c)::k)) hb hr rfl) stepR_loop) harr⟩
theorem Og(St0:α->St)(μ:α->Nat)(x0:α)(t:A3 S (St0 x0))(hl:S.H.length<=(St0 x0).H.length)(body:∀x,W P ro c (St0 x) (Oc St0 (fun y=>μ y<μ x) (St0 x).H.length Q)):W P ro (.loop c) S Q:=by
 refine Ae t hl ?_;intro N G a w r;refine K6 (fun x a' w'=>∃G',Rel ro N (St0 x) G' a' w'/\BE G w G' w') μ x0 ⟨G,r,BE.refl G w⟩ ?_;rintro x a₁ w₁ ⟨G₁,r₁,k₁⟩;have hb:=body x N G₁ a₁ w₁ r₁;rw[CH r r₁ k₁]at hb;refine wpIn_mono hb ?_;rintro e a' w' ⟨S',G',q,r',k⟩
 cases e with
 |normal=>
  obtain⟨y,hlt,hle,t'⟩:=q;obtain⟨G'',r'',t''⟩:=t' ro N G' a' w' r' (fun id h=>TG (r₁.J1 id h) hle);exact⟨y,⟨G'',r'',k₁.trans (k.ghost t'' (by rw[r₁.heap,r''.heap];exact hle))⟩,hlt⟩
 |_=>exact⟨S',G',q,r',k₁.trans k⟩
section
variable {b:Frame}{a:Act}{k:List Item}{cs:List Frame}{w:World}
theorem J3{c:Code}:step P (lone (b.atR a (.code (.scope c)::k)) cs w)= .next (lone (b.atR a (.code c:: .inScope c::k)) cs w):=
 step_lone_go (by simp[stepG,stepG.exec,Frame.atR])
theorem ED{c:Code}:step P (lone (b.atR a (.inScope c::k)) cs w)= .next (lone (b.atR a k) cs w):=
 step_lone_go (by simp[stepG,stepG.exec,Frame.atR])
end
def CW(P:Program)(ro:Qt)(c:Code)(Q:Exit->St->Prop):Nat->Exit->St->Prop
 |0,.goto l,S=>findLabel c l=none/\Q (.goto l) S
 |j+1,.goto l,S=>match findLabel c l with
  |some rest=>W P ro rest S (CW P ro c Q j)
  |none=>Q (.goto l) S
 |_,e,S=>Q e S
theorem DO{P:Program}{ro:Qt}{Q:Exit->St->Prop}{j:Nat}{S:St}(he:∀l,e≠ .goto l):CW P ro c Q j e S=Q e S:=by
 cases j<;>cases e<;>first|rfl|exact absurd rfl (he _)
theorem Lb{b:Frame}{k:List Item}{cs:List Frame}{F:Fence}(hF:∃x,F=FE x)(hro:b.roundOf=F.round)(hb:F.fn b.fn)(hr:F.room (cs.length+1+0)):
  ∀(j:Nat)(N:NB)(c₁:Code)(S:St)(G:Gh)(a:Act)(w:World),Rel ro N S G a w->F=FE (rl G ro)->W P ro c₁ S (CW P ro c Q j)->
  ∃e a' w',Post ro N G w Q e a' w'/\ArrivesIn (Machine.fenced P F) P (lone (b.atR a (.code c₁:: .inScope c::k)) cs w) b k cs e a' w':=by
 intro j
 induction j with
 |zero=>
  intro N c₁ S G a w r hf h;have h1:=h N G a w r;rw[<-hf]at h1;obtain⟨e,a',w',⟨S',G',q,r',kk⟩,harr⟩:=h1 b (.inScope c::k) cs hro hb hr
  cases e with
  |normal=>exact⟨.normal,a',w',⟨S',G',q,r',kk⟩,StepsIn.trans harr (.one (fenced_calm (fr:=b.atR a' (.inScope c::k)) hb hr rfl) ED)⟩
  |exit id=>
   refine⟨.exit id,a',w',⟨S',G',q,r',kk⟩,fun k' hk=>harr.1 k' (by simp[exitTo,hk]),fun h1 h2=>harr.2 h1 (by simp[exitTo,h2])⟩
  |goto l=>
   obtain⟨hn,q'⟩:=q;exact⟨.goto l,a',w',⟨S',G',q',r',kk⟩,fun k' hk=>harr.1 k' (by simp[gotoIn,hn,hk]),fun h1 h2=>harr.2 h1 (by simp[gotoIn,hn,h2])⟩
  |ret=>exact⟨.ret,a',w',⟨S',G',q,r',kk⟩,harr⟩
  |panic ch=>exact⟨.panic ch,a',w',⟨S',G',q,r',kk⟩,harr⟩
  |outgrown=>exact⟨.outgrown,a',w',⟨S',G',q,r',kk⟩,harr⟩
 |succ j ih=>
  intro N c₁ S G a w r hf h;have h1:=h N G a w r;rw[<-hf]at h1;obtain⟨e,a',w',⟨S',G',q,r',kk⟩,harr⟩:=h1 b (.inScope c::k) cs hro hb hr
  cases e with
  |normal=>exact⟨.normal,a',w',⟨S',G',q,r',kk⟩,StepsIn.trans harr (.one (fenced_calm (fr:=b.atR a' (.inScope c::k)) hb hr rfl) ED)⟩
  |exit id=>
   refine⟨.exit id,a',w',⟨S',G',q,r',kk⟩,fun k' hk=>harr.1 k' (by simp[exitTo,hk]),fun h1 h2=>harr.2 h1 (by simp[exitTo,h2])⟩
  |goto l=>
   simp only[CW]at q
   cases hfl:findLabel c l with
   |none=>
    rw[hfl]at q;exact⟨.goto l,a',w',⟨S',G',q,r',kk⟩,fun k' hk=>harr.1 k' (by simp[gotoIn,hfl,hk]),fun h1 h2=>harr.2 h1 (by simp[gotoIn,hfl,h2])⟩
   |some rest=>
    rw[hfl]at q;obtain⟨e₂,a₂,w₂,p₂,harr₂⟩:=ih N rest S' G' a' w' r' (by rw[CH r r' kk];exact hf) q;exact⟨e₂,a₂,w₂,p₂.trans kk,.of_steps (harr.1 _ (by simp[gotoIn,hfl])) harr₂⟩
  |ret=>exact⟨.ret,a',w',⟨S',G',q,r',kk⟩,harr⟩
  |panic ch=>exact⟨.panic ch,a',w',⟨S',G',q,r',kk⟩,harr⟩
  |outgrown=>exact⟨.outgrown,a',w',⟨S',G',q,r',kk⟩,harr⟩
theorem Bs(j:Nat)(h:W P ro c S (CW P ro c Q j)):W P ro (.scope c) S Q:=by
 intro N G a w r b k cs hro hb hr;obtain⟨e,a',w',p,harr⟩:=Lb (Q:=Q) (k:=k) (b:=b) (cs:=cs) ⟨_,rfl⟩ hro hb hr j N c S G a w r rfl h;exact⟨e,a',w',p,.of_steps (.one (fenced_calm (fr:=b.atR a (.code (.scope c)::k)) hb hr rfl) J3) harr⟩
mutual
def AV.ok(k:Nat):AV->Bool
 | .d _| .u| .e0| .dp _=>true
 | .ptr id _ _| .sl id _ _| .bs id _ _ _ _| .ep id _ _ _ _| .yl id| .mp id=>Nat.blt id k
 | .ag cs| .tup cs=>AV.oks k cs
 | .fn _ a b=>AV.oks k a&&AV.oks k b
def AV.oks(k:Nat):R8->Bool
 |[]=>true
 |x::r=>x.ok k&&AV.oks k r
end
def Bn(k:Nat):R9->Bool
 |[]=>true
 |p::r=>p.2.ok k&&Bn k r
def mapOk(k:Nat):RL->Bool
 |[]=>true
 |p::r=>p.2.ok k&&mapOk k r
def A2.ok(k:Nat):A2->Bool
 | .gone| .a _| .D5 _ _ _| .many _=>true
 | .c cs=>AV.oks k cs
 | .m es=>mapOk k es
 | .lp r=>Bn k r.env
def AM(k:Nat):RE->Bool
 |[]=>true
 |b::r=>b.ok k&&AM k r
def Dw:R9->R9->Prop
 |[],_=>True
 |p::r,e=>get e p.1=some p.2/\Dw r e
def B0:RE->RE->Prop
 |[],_=>True
 |_::_,[]=>False
 |b::r,b'::r'=>((b= .gone/\b'.LR=false)\/b=b')/\B0 r r'
end
theorem Aw{l l':RE}(h:B0 l l'):∀{id:Nat}{b:A2},l[id]? =some b->∃b':A2,l'[id]? =some b'/\((b= .gone/\b'.LR=false)\/b=b'):=by
 induction l generalizing l' with
 |nil=>intro id b hb;simp at hb
 |cons x r ih=>
  cases l' with
  |nil=>simp[B0]at h
  |cons y r'=>
   simp only[B0]at h;intro id b hb
   cases id with
   |zero=>simp at hb;subst hb;exact⟨y,sm,h.1⟩
   |succ id=>simpa using ih h.2 (by simpa using hb)
variable {e:R9}
theorem K2{e':R9}(h:Dw e e'):∀{t:Nat}{x:AV},get e t=some x->get e' t=some x:=by
 induction e with
 |nil=>intro t x hx;simp[get]at hx
 |cons p r ih=>
  intro t x hx;obtain⟨k,y⟩:=p;simp only[get]at hx;simp only[Dw]at h
  cases hk:Nat.beq k t with
  |true=>
   rw[hk]at hx;simp at hx;subst hx;have:=Qi hk;subst this;exact h.1
  |false=>
   rw[hk]at hx;exact ih h.2 (by simpa using hx)
def Gh.cut(G:Gh)(H:RE):Gh:={G with H:=H}
mutual
theorem RV.cut{G:Gh}{H:RE}(hs:B0 H G.H):∀{x:AV}{v:Value},x.ok H.length=true->RV G x v->RV (G.cut H) x v
 | .d x,v,_,r=>by simpa only[RV,Gh.cut]using r
 | .u,_,_,_=>by simp[RV]
 | .e0,_,_,r=>by simpa only[RV]using r
 | .dp cs,v,_,r=>by simpa only[RV,Gh.cut]using r
 | .ptr id _ _,_,ho,r| .sl id _ _,_,ho,r| .bs id _ _ _ _,_,ho,r| .ep id _ _ _ _,_,ho,r| .yl id,_,ho,r| .mp id,_,ho,r=>by
  simp only[RV]at r|-;obtain⟨h1c,blk,hb,hr⟩:=r;have hid:id<H.length:=by simpa[AV.ok,S9]using ho
  obtain⟨b',hb',hk⟩:=Aw hs (Qm hid);rw[hb]at hb';cases hb';refine⟨h1c,H[id],Qm hid,?_⟩;rcases hk with⟨hk,_⟩|hk<;>rw[hk]
  .trivial
  .exact hr
 | .ag _,_,ho,r| .tup _,_,ho,r=>by
  simp only[RV]at r|-;obtain⟨vs,hv,hr⟩:=r;exact⟨vs,hv,AH.cut hs (by simpa[AV.ok]using ho) hr⟩
 | .fn f first cap,v,ho,r=>by
  simp only[RV]at r|-;simp only[AV.ok,Qk]at ho;obtain⟨p,q,hv,hp,hq⟩:=r;exact⟨p,q,hv,AH.cut hs ho.1 hp,AH.cut hs ho.2 hq⟩
theorem AH.cut{G:Gh}{H:RE}(hs:B0 H G.H):∀{xs:R8}{vs:Qf},AV.oks H.length xs=true->AH G xs vs->AH (G.cut H) xs vs
 |[],_,_,r=>by simpa[AH]using r
 |x::xs,vs,ho,r=>by
  simp only[AH]at r|-;simp only[AV.oks,Qk]at ho;obtain⟨v,q,hv,hd,hr⟩:=r;exact⟨v,q,hv,RV.cut hs ho.1 hd,AH.cut hs ho.2 hr⟩
end
variable {k:Nat}
theorem Ki{cs:R8}(h:AV.oks k cs=true):∀{i:Nat}{x:AV},cs[i]? =some x->x.ok k=true:=by
 induction cs with
 |nil=>intro i x hx;simp at hx
 |cons c r ih=>
  simp only[AV.oks,Qk]at h;intro i x hx
  cases i with
  |zero=>simp at hx;subst hx;exact h.1
  |succ i=>exact ih h.2 (by simpa using hx)
theorem FA(h:Bn k e=true):∀{t:Nat}{x:AV},get e t=some x->x.ok k=true:=by
 induction e with
 |nil=>intro t x hx;simp[get]at hx
 |cons p r ih=>
  simp only[Bn,Qk]at h;intro t x hx;simp only[get]at hx;split at hx
  .cases hx;exact h.1
  .exact ih h.2 hx
theorem HO{es:RL}(h:mapOk k es=true):∀{i:Nat}{q:D×AV},es[i]? =some q->q.2.ok k=true:=by
 induction es with
 |nil=>intro i x hx;simp at hx
 |cons c r ih=>
  simp only[mapOk,Qk]at h;intro i x hx
  cases i with
  |zero=>simp at hx;subst hx;exact h.1
  |succ i=>exact ih h.2 (by simpa using hx)
theorem EL{l:RE}(h:AM k l=true):∀{i:Nat}{b:A2},l[i]? =some b->b.ok k=true:=by
 induction l with
 |nil=>intro i x hx;simp at hx
 |cons c r ih=>
  simp only[AM,Qk]at h;intro i x hx
  cases i with
  |zero=>simp at hx;subst hx;exact h.1
  |succ i=>exact ih h.2 (by simpa using hx)
variable {H:RE}
theorem BR.cut(hs:B0 H G.H){id:Nat}:∀{b:A2},b.ok H.length=true->BR G w id b->BR (G.cut H) w id b
 | .gone,_,_=>trivial
 | .c cs,ho,h=>by
  obtain⟨b,N,vs,T,h1,h2,h3,h4,h6⟩:=h;refine⟨b,N,vs,T,h1,h2,h3,h4,fun k x hx=> ?_⟩;obtain⟨v,hv,hr⟩:=h6 k x hx;exact⟨v,hv,hr.cut hs (Ki ho hx)⟩
 | .a x,_,h=>h
 | .m es,ho,h=>by
  obtain⟨b,N,ms,cl,h1,h2,h3,h4⟩:=h;refine⟨b,N,ms,cl,h1,h2,h3,fun k q hq=> ?_⟩;obtain⟨e,he,hd,hr⟩:=h4 k q hq;exact⟨e,he,hd,hr.cut hs (HO ho hq)⟩
 | .lp r,ho,h=>by
  obtain⟨l,N,df,tmps,h1,h2,h3,h4⟩:=h;refine⟨l,N,df,tmps,h1,h2,h3,fun t x hx=> ?_⟩;obtain⟨v,hv,hr⟩:=h4 t x hx;exact⟨v,hv,hr.cut hs (FA ho hx)⟩
 | .D5 _ _ _,_,h=>h
 | .many _,_,h=>h
theorem I8(hs:B0 H G.H){b:Nat}(h:Own (G.cut H) b):Own G b:=by
 refine Dr (fun id rs hb=> ?_) (fun b h=> ?_) b h
 .obtain⟨b',hb',hk⟩:=Aw hs hb;rcases hk with⟨hk,_⟩|hk
  .cases hk
  .rw[hk];exact hb'
 obtain⟨id,N,blk,hb,hl,hρ⟩:=h;obtain⟨b',hb',hk⟩:=Aw hs hb;rcases hk with⟨hk,_⟩|hk
 .subst hk;simp[A2.live]at hl
 .subst hk;exact⟨id,N,blk,hb',hl,hρ⟩
theorem AD.cut(h:AD G w)(hs:B0 H G.H)(ho:AM H.length H=true):AD (G.cut H) w where
 blk id b hb:=by
  obtain⟨b',hb',hk⟩:=Aw hs hb;rcases hk with⟨hk,_⟩|hk
  .subst hk;trivial
  .subst hk;exact(h.blk id b hb').cut hs (EL ho hb)
 inj id id' p q b N N' hp hq lp lq r1 r2:=by
  obtain⟨p',hp',kp⟩:=Aw hs hp;obtain⟨q',hq',kq⟩:=Aw hs hq
  have ep:p=p':=by
   rcases kp with⟨kp,_⟩|kp
   .subst kp;simp[A2.live]at lp
   .exact kp
  have eq:q=q':=by
   rcases kq with⟨kq,_⟩|kq
   .subst kq;simp[A2.live]at lq
   .exact kq
  subst ep;subst eq;exact h.inj id id' p q b N N' hp' hq' lp lq r1 r2
 mem:=h.mem
 sep b hb:=h.sep b (I8 hs hb)
 st:=h.st
 mny:=h.mny.of (n:=w.heap.size) (fun b hb=>Ad h (.inr hb)) (fun id rs hb=>by
  obtain⟨b',hb',hk⟩:=Aw hs hb;rcases hk with⟨hk,_⟩|hk
  .cases hk
  .rw[hk];exact hb') (fun b hb=>by
  obtain⟨id,N,blk,hb,hl,hρ⟩:=hb;obtain⟨b',hb',hk⟩:=Aw hs hb;rcases hk with⟨hk,_⟩|hk
  .subst hk;simp[A2.live]at hl
  .subst hk;exact .inl ⟨id,N,blk,hb',hl,hρ⟩)
theorem IL.cut(hs:B0 H G.H):IL G (G.cut H) where
 blk id b b' hb hb':=by
  obtain⟨c,hc,hk⟩:=Aw hs hb';rw[hb]at hc;cases hc;rcases hk with⟨hk,hl⟩|hk
  .subst hk;cases b<;>simp_all[A6,A2.LR]
  .subst hk;cases b'<;>simp[A6,Gh.cut]
 mem:=Mem.le_refl _
 own b h:=I8 hs h
 memNew b k v h:=.inl h
theorem A3.cut{S S':St}(hn:S'.n=S.n)(he:Dw S'.env S.env)(hH:B0 S'.H S.H)(ho:AM S'.H.length S'.H=true)(heo:Bn S'.H.length S'.env=true): A3 S S':=by
 intro ro N G a w r hlt;have hs:B0 S'.H G.H:=by rw[r.heap];exact hH
 refine⟨G.cut S'.H,⟨rfl,r.rel.cut hs ho,by rw[r.size,hn],?_,?_,?_⟩,IL.cut hs⟩
 .intro t x hx;obtain⟨v,hv,hr⟩:=r.env t x (K2 he hx);exact⟨v,hv,hr.cut hs (FA heo hx)⟩
 .obtain⟨h0,ms,h1,h2,h3⟩:=r.marks;exact⟨h0,ms,h1,h2,fun q hq=>⟨(h3 q hq).1,(h3 q hq).2.1,fun ho'=>(h3 q hq).2.2 (I8 hs ho')⟩⟩
 .intro id hid;obtain⟨q,l,N,h1,h2⟩:=r.round id hid;have hid':=hlt id hid;obtain⟨b',hb',hk⟩:=Aw hH (Qm hid');rw[h1]at hb';cases hb';rcases hk with⟨_,hk⟩|hk
  .simp[A2.LR]at hk
  .exact⟨q,l,N,by rw[Qm hid',hk],h2⟩
end Go.Gar
namespace Go.Gar
inductive K where
 |st (fs:QR)
 |arr (len elem:Nat)
 |sl (elem:Nat)
 |ptr (elem:Nat)
 |mp (key elem:Nat)
 |int (k:IntKind)
 |str
 |bool
 |fl (k:FloatKind)
 |fn
 |ifc
 |other
structure AK where
 k:K
 size:Nat
 bytes:Nat
 agg:Bool
 zero:Qf
 eq:Bool
def FV:TypeDesc->K
 | .struct fs=> .st (fs.toList.map fun f=>(f.offset,f.type))
 | .array n e=> .arr n e
 | .slice e=> .sl e
 | .pointer e=> .ptr e
 | .map k e=> .mp k e
 | .int k=> .int k
 | .string=> .str
 | .bool=> .bool
 | .float k=> .fl k
 | .func _ _ _=> .fn
 | .interface _=> .ifc
 |_=> .other
def KD:TypeDesc->Bool
 | .struct _| .array _ _=>true
 |_=>false
def CF(P:Program)(t:Nat):Option AK:=
 match P.info? t,P.underlying t with
 |some i,some d=>match i.zero with
  |some z=>if z.cells.toList.length=i.size then some {k:=FV d,size:=i.size,bytes:=i.bytes,agg:=KD d,zero:=z.cells.toList,eq:=KD d&&P.keyTypeAt 40 t&& !P.eqGuardType P.depth t}else none
  |none=>none
 |_,_=>none
def Ai(P:Program)(E:Nat->Option AK):Prop:=∀t i,E t=some i->CF P t=some i
variable {P:Program}{t:Nat}{y:AK}
theorem Ak(h:CF P t=some y):
  ∃i d z,P.info? t=some i/\P.underlying t=some d/\i.zero=some z/\y.k=FV d/\y.size=i.size/\y.bytes=i.bytes/\y.agg=KD d/\y.zero=z.cells.toList:=by
 unfold CF at h;split at h
 .rename_i i d h1 h2;split at h
  .rename_i z h3;split at h
   .cases h;exact⟨i,d,z,h1,h2,h3,rfl,rfl,rfl,rfl,rfl⟩
   .cases h
  .cases h
 .cases h
theorem O7(h:CF P t=some y)(he:y.eq=true):y.agg=true/\P.keyTypeAt 40 t=true/\P.eqGuardType P.depth t=false:=by
 unfold CF at h;split at h
 .split at h
  .split at h
   .cases h;simp only[Qk,Bool.not_eq_true']at he;exact⟨he.1.1,he.1.2,he.2⟩
   .cases h
  .cases h
 .cases h
theorem E4(h:CF P t=some y):y.zero.length=y.size:=by
 unfold CF at h;split at h
 .split at h
  .split at h
   .cases h;assumption
   .cases h
  .cases h
 .cases h
section
variable {P:Program}{t:Nat}{y:AK}(h:CF P t=some y)(w:World)
include h
theorem AG:(sizeOf t).run P w= .ok y.size w:=by
 obtain⟨i,d,z,h1,h2,h3,h4,h5,h6,h7,h8⟩:=Ak h;simp[sizeOf,typeInfo,h1,h5]
theorem Es:(isAgg t).run P w= .ok y.agg w:=by
 obtain⟨i,d,z,h1,h2,h3,h4,h5,h6,h7,h8⟩:=Ak h;simp only[isAgg,underlying,Qr,run_program,Ql,h2,Qu,h7];cases d<;>rfl
theorem Be:∃z:Value,(zeroValue t).run P w= .ok z w/\z.cells.toList=y.zero:=by
 obtain⟨i,d,z,h1,h2,h3,h4,h5,h6,h7,h8⟩:=Ak h;exact⟨z,by simp[zeroValue,typeInfo,h1,h3],h8.symm⟩
theorem A8:∃d,(underlying t).run P w= .ok d w/\FV d=y.k/\P.underlying t=some d:=by
 obtain⟨i,d,z,h1,h2,h3,h4,h5,h6,h7,h8⟩:=Ak h;exact⟨d,by simp[underlying,h2],h4.symm,h2⟩
end
variable {d:TypeDesc}
theorem FG{fs:QR}(h:FV d= .st fs):∃q:Array Field,d= .struct q/\fs=q.toList.map fun f=>(f.offset,f.type):=by
 cases d<;>simp[FV]at h;exact⟨_,rfl,h.symm⟩
variable {e:Nat}
theorem Bj(h:FV d= .sl e):d= .slice e:=by
 cases d<;>simp[FV]at h;rw[h]
theorem DW{n:Nat}(h:FV d= .arr n e):d= .array n e:=by
 cases d<;>simp[FV]at h;rw[h.1,h.2]
variable {k:IntKind}
theorem Cz(h:FV d= .int k):d= .int k:=by
 cases d<;>simp[FV]at h;rw[h]
theorem Cf(h:FV d= .str):d= .string:=by
 cases d<;>simp[FV]at h;rfl
theorem En(h:FV d= .bool):d= .bool:=by
 cases d<;>simp[FV]at h;rfl
theorem O4(h:FV d= .ptr e):d= .pointer e:=by
 cases d<;>simp[FV]at h;rw[h]
theorem Mt{k:Nat}(h:FV d= .mp k e):d= .map k e:=by
 cases d<;>simp[FV]at h;rw[h.1,h.2]
theorem P2(h:FV d= .fn):∃a b c,d= .func a b c:=by
 cases d<;>simp[FV]at h;exact⟨_,_,_,rfl⟩
def Bi(P:Program)(o:Oper)(S:St)(x:AV)(H':RE):Prop:=
 ∀ro N G a w,Rel ro N S G a w->∃r w' G',(execOp a.eval o).run P w= .ok r w'/\(r= .skip/\x= .u\/∃v,r= .value v/\RV G' x v)/\G'.H=H'/\AD G' w'/\BE G w G' w'
theorem Bi.still{o:Oper}{S:St}{x:AV}(h:∀ro N G a w,Rel ro N S G a w->∃v,(execOp a.eval o).run P w= .ok (.value v) w/\RV G x v):Bi P o S x S.H:=by
 intro ro N G a w r;obtain⟨v,h1,h2⟩:=h ro N G a w r;exact⟨_,w,G,h1,.inr ⟨v,rfl,h2⟩,r.heap,r.rel,BE.refl G w⟩
def Cw(k:IntKind)(n:Int):Bool:=
 match k with
 | .i64=>decide (-9223372036854775808<=n)&&decide (n<=9223372036854775807)
 |_=>true
def Cb(k:IntKind)(n:Int):Int:=
 match k with
 | .i64=>n
 |k=>k.wrap n
theorem DK{n:Int}(h:Cw k n=true):k.wrap n=Cb k n:=by
 cases k<;>simp only[Cw,Cb,Qk,Qv]at h|-;rw[IntKind.wrap_i64];omega
def C7(op:BinOp)(k:IntKind)(x y:Int):Int:=
 let a:=BitVec.ofInt k.bits x;let b:=BitVec.ofInt k.bits y
 match op with
 | .and=>k.wrap (a&&&b).toNat
 | .or=>k.wrap (a|||b).toNat
 | .xor=>k.wrap (a^^^b).toNat
 |_=>k.wrap (a&&& ~~~b).toNat
def LA(op:BinOp):D->D->Option (Bool×D)
 | .i k a,.i k' b=>
  match op with
  | .add=>some (decide (k=k')&&Cw k (a+b),.i k (Cb k (a+b)))
  | .sub=>some (decide (k=k')&&Cw k (a-b),.i k (Cb k (a-b)))
  | .mul=>some (decide (k=k')&&Cw k (a*b),.i k (Cb k (a*b)))
  | .quo=>some (decide (k=k')&& !(b==0)&&Cw k (a.tdiv b),.i k (Cb k (a.tdiv b)))
  | .rem=>some (decide (k=k')&& !(b==0),.i k (a.tmod b))
  | .and=>some (decide (k=k'),.i k (C7 .and k a b))
  | .or=>some (decide (k=k'),.i k (C7 .or k a b))
  | .xor=>some (decide (k=k'),.i k (C7 .xor k a b))
  | .andNot=>some (decide (k=k'),.i k (C7 .andNot k a b))
  | .shl=>some (decide (0<=b),.i k (k.wrap (a*2^(min b.toNat k.bits))))
  | .shr=>some (decide (0<=b),.i k (a.fdiv (2^(min b.toNat k.bits))))
  | .eql=>some (decide (k=k'),.b (a==b))
  | .neq=>some (decide (k=k'),.b (a !=b))
  | .lss=>some (decide (k=k'),.b (decide (a<b)))
  | .leq=>some (decide (k=k'),.b (decide (a<=b)))
  | .gtr=>some (decide (k=k'),.b (decide (a>b)))
  | .geq=>some (decide (k=k'),.b (decide (a>=b)))
 | .s a,.s b=>
  match op with
  | .add=>some (decide (a.length+b.length<=9223372036854775807),.s (a++b))
  | .eql=>some (true,.b (a==b))
  | .neq=>some (true,.b (!(a==b)))
  | .lss=>some (true,.b (Op.bytesLess a b))
  | .leq=>some (true,.b (Op.bytesLess a b||a==b))
  | .gtr=>some (true,.b (!(Op.bytesLess a b||a==b)))
  | .geq=>some (true,.b (!(Op.bytesLess a b)))
  |_=>none
 |_,_=>none
variable {s:Sem Value}{m:Mem}{w:World}
theorem DD{n n':Int}(h:s.run P w= .ok (.int k n') w)(e:n'=n):∃v,s.run P w= .ok v w/\RD m (.i k n) v:=
 ⟨_,h,by simp[RD,e]⟩
theorem Mg{n n':Bool}(h:s.run P w= .ok (.bool n') w)(e:n'=n):∃v,s.run P w= .ok v w/\RD m (.b n) v:=
 ⟨_,h,by simp[RD,e]⟩
variable {c:Bool}
theorem Nv{op:BinOp}{a b:D}{r:D}(h:LA op a b=some (c,r))(hc:c=true){x y:Value}(ha:RD m a x)(hb:RD m b y)(w:World):
  ∃v,(binOp op t x y).run P w= .ok v w/\RD m r v:=by
 subst hc;unfold LA at h;split at h
 .rename_i k a k' b;simp only[RD]at ha hb;subst ha;subst hb;cases op<;>simp only[Qj,Qo,Qk,Qv]at h<;>obtain⟨hc,rfl⟩:=h
  .obtain⟨rfl,hf⟩:=hc;exact DD (n':=k.wrap (a+b)) (by simp[binOp,Op.intArith]) (DK hf)
  .obtain⟨rfl,hf⟩:=hc;exact DD (n':=k.wrap (a-b)) (by simp[binOp,Op.intArith]) (DK hf)
  .obtain⟨rfl,hf⟩:=hc;exact DD (n':=k.wrap (a*b)) (by simp[binOp,Op.intArith]) (DK hf)
  .obtain⟨⟨rfl,hz⟩,hf⟩:=hc;exact DD (n':=k.wrap (a.tdiv b)) (by simp[binOp,Op.intDiv,(by simpa using hz:b≠0)]) (DK hf)
  .obtain⟨rfl,hz⟩:=hc;exact DD (n':=a.tmod b) (by simp[binOp,Op.intDiv,(by simpa using hz:b≠0)]) rfl
  .subst hc;exact DD (n':=C7 .and k a b) (by simp[binOp,Op.intBits,C7]) rfl
  .subst hc;exact DD (n':=C7 .or k a b) (by simp[binOp,Op.intBits,C7]) rfl
  .subst hc;exact DD (n':=C7 .xor k a b) (by simp[binOp,Op.intBits,C7]) rfl
  .exact DD (n':=k.wrap (a*2^(min b.toNat k.bits))) (by simp only[binOp,Op.shift];rw[Rw om];rfl) rfl
  .exact DD (n':=a.fdiv (2^(min b.toNat k.bits))) (by simp only[binOp,Op.shift];rw[Rw om];rfl) rfl
  .subst hc;exact DD (n':=C7 .andNot k a b) (by simp[binOp,Op.intBits,C7]) rfl
  all_goals(subst hc;exact Mg (by simp[binOp,Op.intCmp]) rfl)
 .rename_i a b;simp only[RD]at ha hb;subst ha;subst hb;cases op<;>simp only[Qj,Qo,Qv,reduceCtorEq]at h
  .obtain⟨hc,rfl⟩:=h;refine⟨.string (⟨a.toArray⟩++⟨b.toArray⟩),?_,?_⟩
   .have hn:¬((((⟨a.toArray⟩:ByteArray).size+(⟨b.toArray⟩:ByteArray).size:Nat):Int)>IntKind.i64.max):=by
     have e1:(⟨a.toArray⟩:ByteArray).size=a.length:=by simp[ByteArray.size]
     have e2:(⟨b.toArray⟩:ByteArray).size=b.length:=by simp[ByteArray.size]
     rw[e1,e2];have:IntKind.i64.max=9223372036854775807:=by decide
     omega
    simp only[binOp,Op.stringOp];rw[Rw hn];rfl
   .simp only[RD]
    congr 1
  all_goals(obtain⟨_,rfl⟩:=h;exact Mg (by simp[binOp,Op.stringOp]) rfl)
 .cases h
def unD(op:UnOp):D->Option (Bool×D)
 | .b x=>match op with
  | .not=>some (true,.b (!x))
  |_=>none
 | .i k n=>match op with
  | .neg=>some (Cw k (0-n),.i k (Cb k (0-n)))
  | .xor=>some (true,.i k (C7 .xor k (if k.signed then -1 else k.max) n))
  |_=>none
 | .f k n=>match op with
  | .neg=>some (true,.f k (Op.negFloat k n))
  |_=>none
 |_=>none
theorem PF{op:UnOp}{a:D}{r:D}(h:unD op a=some (c,r))(hc:c=true){x:Value}(ha:RD m a x)(w:World):
  ∃v,(Op.unary op x).run P w= .ok v w/\RD m r v:=by
 subst hc;cases a<;>simp only[unD,reduceCtorEq]at h
 .simp only[RD]at ha;subst ha;cases op<;>simp only[Qj,Qo,reduceCtorEq]at h;obtain⟨_,rfl⟩:=h;exact Mg (by simp[Op.unary]) rfl
 .rename_i k n;simp only[RD]at ha;subst ha;cases op<;>simp only[Qj,Qo,reduceCtorEq]at h
  .obtain⟨hf,rfl⟩:=h;exact DD (n':=k.wrap (0-n)) (by simp[Op.unary,Op.intArith]) (DK hf)
  .obtain⟨_,rfl⟩:=h;exact DD (n':=C7 .xor k (if k.signed then -1 else k.max) n) (by simp[Op.unary,Op.intBits,C7]) rfl
 .rename_i k n;simp only[RD]at ha;subst ha;cases op<;>simp only[Qj,Qo,reduceCtorEq]at h;obtain⟨_,rfl⟩:=h;exact⟨.float k (Op.negFloat k n),by simp[Op.unary],by simp[RD]⟩
variable {G:Gh}{b:Nat}
theorem DY(h:AD G w){k:Nat}{v:Value}(hm:G.m b k=some v):b<w.heap.size:=
 World.block_lt_of_cell? w ⟨b,k,none⟩ (h.mem b k v hm)
theorem BR.Gz{G':Gh}{w':World}(hg:DN G G'){id:Nat}{blk:A2}(hb:BR G w id blk)(hw:∀b N,blk.live=true->G.ρ id=some (b,N)->w'.heap[b]? =w.heap[b]?)(hρ:G'.ρ id=G.ρ id)(hw2:∀rs,blk= .many rs->∀b,b∈BX rs->w'.heap[b]? =w.heap[b]?:=by intros;rfl):BR G' w' id blk:=by
 cases blk with
 |gone=>trivial
 |c cs=>
  obtain⟨b,N,vs,T,h1,h2,h3,h4,h5⟩:=hb;exact⟨b,N,vs,T,hρ.trans h1,(hw b N rfl h1).trans h2,h3,h4,fun k x hx=>let⟨v,hv,hr⟩:=h5 k x hx;⟨v,hv,hr.mono hg⟩⟩
 |a x=>
  obtain⟨h1,h2,h3⟩:=hb;refine⟨h1,h2,h3.imp (fun h=>⟨h.1,hρ.trans h.2⟩) ?_⟩;rintro⟨b,N,vs,T,h1,h2,h3,h5⟩;exact⟨b,N,vs,T,hρ.trans h1,(hw b N rfl h1).trans h2,h3,fun k x hx=>let⟨v,hv,h1c,hr⟩:=h5 k x hx;⟨v,hv,h1c,hr.mono hg.mem⟩⟩
 |m es=>
  obtain⟨b,N,ms,cl,h1,h2,h3,h4⟩:=hb;exact⟨b,N,ms,cl,hρ.trans h1,(hw b N rfl h1).trans h2,h3,fun k q hq=>let⟨e,he,hd,hr⟩:=h4 k q hq;⟨e,he,hd.mono hg.mem,hr.mono hg⟩⟩
 |lp r=>
  obtain⟨l,N,df,tmps,h1,h2,h3,h4⟩:=hb;exact⟨l,N,df,tmps,hρ.trans h1,(hw l N rfl h1).trans h2,h3,h4.mono hg⟩
 |D5 b N l=>
  obtain⟨vs,T,h1,h2,h3⟩:=hb;exact⟨vs,T,hρ.trans h1,(hw b N rfl h1).trans h2,h3⟩
 |many rs=>
  intro b N l hm;obtain⟨vs,T,h2,h3⟩:=hb b N l hm;exact⟨vs,T,(hw2 rs rfl b (C4.2 ⟨N,l,hm⟩)).trans h2,h3⟩
theorem Fo{w':World}(h:AD G w)(hos:w'.os=w.os)(htp:w'.tape=w.tape)(hout:w'.output=w.output)(hsz:w.heap.size<=w'.heap.size)(hb:∀b,b<w.heap.size->w'.heap[b]? =w.heap[b]?)(m':Mem)(hm:G.m.le m')(hm':∀b k v,m' b k=some v->G.m b k=some v\/w.heap.size<=b)(hc:∀b k v,m' b k=some v->w'.cell? ⟨b,k,none⟩=some v):
  AD {G with m:=m'} w'/\BE G w {G with m:=m'} w':=by
 have hg:DN G {G with m:=m'}:=⟨fun id b hb=>⟨b,hb,by cases b<;>simp[A6]⟩,hm⟩;have hown:∀b,Own {G with m:=m'} b->Own G b:=fun b h=>h
 refine⟨⟨fun id b hb'=>(h.blk id b hb').Gz hg ?_ rfl (fun rs e c hc=>hb c (Ad h (.inr ⟨id,rs,by rw[<-e];exact hb',hc⟩))),h.inj,hc,?_,fun b k v hv=>hm b k v (h.st b k v hv),h.mny⟩,⟨hos,htp,hout,hsz,fun b hb' ho=>⟨hb b hb',ho⟩,?_,hg⟩⟩
 .intro q N hl hq;exact hb q (Ad h (.inl ⟨id,N,b,hb',hl,hq⟩))
 .intro b ho k;show m' b k=none
  cases hv:m' b k with
  |none=>rfl
  |some v=>
   rcases hm' b k v hv with h1|h1
   .rw[h.sep b ho k]at h1;cases h1
   .have:=Ad h ho;omega
 .intro b k v hv;rcases hm' b k v hv with h1|h1
  .exact .inl h1
  .exact .inr (.inr h1)
theorem Fj(h:AD G w)(n:Nat):AD G {w with drawn:=n}/\BE G w G {w with drawn:=n}:=
 Fo (w':={w with drawn:=n}) h rfl rfl rfl (Qn _) (fun _ _=>rfl) G.m (Mem.le_refl _) (fun _ _ _ h=> .inl h) (fun b k v hv=>h.mem b k v hv)
def Gh.lay(G:Gh)(b0:Nat)(cs:Qf):Gh:={G with m:=fun b k=>if b=b0 then cs[k]? else G.m b k}
theorem Hw(h:AD G w)(cur:R2)(T:TypeId)(fr:Nat×Nat)(cs:Qf)(hcs:∀(k:Nat)(v:Value),cs[k]? =some v->cur[k]? =some v):
  AD (G.lay w.heap.size cs) (w.alloc (.cells cur T fr))/\BE G w (G.lay w.heap.size cs) (w.alloc (.cells cur T fr)):=by
 refine Fo (w':=w.alloc (.cells cur T fr)) h rfl rfl rfl sm (fun b hb=>TB w _ b hb) _ ?_ ?_ ?_
 .intro b k v hv;have:=DY h hv;simp only[Gh.lay];rw[Rw om];exact hv
 .intro b k v hv;have hv:(if b=w.heap.size then cs[k]? else G.m b k)=some v:=hv;split at hv
  .exact .inr om
  .exact .inl hv
 .intro b k v hv;have hv:(if b=w.heap.size then cs[k]? else G.m b k)=some v:=hv;split at hv
  .rename_i hb;subst hb;simp only[World.cell?,World.alloc,Array.getElem?_push_size];simpa using hcs k v (by simpa using hv)
  .have:=DY h hv;rw[World.cell?_alloc_lt _ _ _ (by exact this)];exact h.mem b k v hv
def Yields(P:Program)(G:Gh)(w:World)(s:Sem Value)(y:AV):Prop:=
 ∃u w' G',s.run P w= .ok u w'/\RV G' y u/\G'.H=G.H/\AD G' w'/\BE G w G' w'
theorem Yields.still{y:AV}(hr:AD G w){u:Value}(h:s.run P w= .ok u w)(hy:RV G y u):Yields P G w s y:=
 ⟨u,w,G,h,hy,rfl,hr,BE.refl G w⟩
def L6:R8->Option (R6)
 |[]=>some []
 |x::r=>match x,L6 r with
  | .d y,some l=>some (y::l)
  |_,_=>none
def mkV(agg:Bool)(cs:R8):RA:=
 match agg with
 |true=>match L6 cs with
  |some ds=>some (.d (.agg ds))
  |none=>some (.ag cs)
 |false=>match cs with
  |[x]=>some x
  |_=>none
def EE{α:Type}:Nat->List α->Option (List α)
 |0,_=>some []
 |n+1,x::r=>match EE n r with
  |some l=>some (x::l)
  |none=>none
 |_+1,[]=>none
def D9{α:Type}:Nat->List α->List α
 |0,l=>l
 |n+1,_::r=>D9 n r
 |_+1,[]=>[]
theorem DJ{α:Type}:∀{n:Nat}{l r:List α},EE n l=some r->r=l.take n/\r.length=n
 |0,l,r,h=>by simp[EE]at h;subst h;simp
 |n+1,x::l,r,h=>by
  simp only[EE]at h;split at h
  .rename_i q hq;cases h;obtain⟨h1,h2⟩:=DJ hq;simp[<-h1,h2]
  .cases h
 |n+1,[],r,h=>by simp[EE]at h
theorem C3{α:Type}:∀{n:Nat}{l:List α},D9 n l=l.drop n
 |0,l=>by simp[D9]
 |n+1,x::l=>by simp[D9,C3 (n:=n) (l:=l)]
 |n+1,[]=>by simp[D9]
theorem KE{cs:R8}{ds:R6}(h:L6 cs=some ds):cs=ds.map .d:=by
 induction cs generalizing ds with
 |nil=>simp[L6]at h;subst h;rfl
 |cons x r ih=>
  simp only[L6]at h;split at h
  .rename_i y l hl;cases h;simp[ih hl]
  .cases h
theorem H8{G:Gh}:∀{ds:R6}{vs:Qf},AH G (ds.map .d) vs↔BJ G.m ds vs
 |[],vs=>by simp[AH,BJ]
 |d::ds,vs=>by
  simp only[Ru,AH,BJ,RV];constructor
  .rintro⟨v,r,h1,h2,h3⟩;exact⟨v,r,h1,h2,H8.1 h3⟩
  .rintro⟨v,r,h1,h2,h3⟩;exact⟨v,r,h1,h2,H8.2 h3⟩
theorem B2{G:Gh}:∀{xs:R8}{vs:Qf},AH G xs vs↔vs.length=xs.length/\∀(k:Nat)(x:AV),xs[k]? =some x->∃v,vs[k]? =some v/\RV G x v
 |[],vs=>by simp[AH]
 |x::xs,vs=>by
  simp only[AH];constructor
  .rintro⟨v,r,rfl,h2,h3⟩;obtain⟨h4,h5⟩:=B2.1 h3;refine⟨by simp[h4],fun k y hy=> ?_⟩
   cases k with
   |zero=>simp at hy;subst hy;exact⟨v,sm,h2⟩
   |succ k=>simpa using h5 k y (by simpa using hy)
  .rintro⟨h1,h2⟩
   cases vs with
   |nil=>simp at h1
   |cons v r=>
    obtain⟨u,hu,hr⟩:=h2 0 x sm;simp at hu;subst hu;exact⟨v,r,rfl,hr,B2.2 ⟨by simpa using h1,fun k y hy=>by simpa using h2 (k+1) y (by simpa using hy)⟩⟩
theorem BZ{m:Mem}:∀{xs:R6}{vs:Qf},BJ m xs vs↔vs.length=xs.length/\∀(k:Nat)(x:D),xs[k]? =some x->∃v,vs[k]? =some v/\RD m x v
 |[],vs=>by simp[BJ]
 |x::xs,vs=>by
  simp only[BJ];constructor
  .rintro⟨v,r,rfl,h2,h3⟩;obtain⟨h4,h5⟩:=BZ.1 h3;refine⟨by simp[h4],fun k y hy=> ?_⟩
   cases k with
   |zero=>simp at hy;subst hy;exact⟨v,sm,h2⟩
   |succ k=>simpa using h5 k y (by simpa using hy)
  .rintro⟨h1,h2⟩
   cases vs with
   |nil=>simp at h1
   |cons v r=>
    obtain⟨u,hu,hr⟩:=h2 0 x sm;simp at hu;subst hu;exact⟨v,r,rfl,hr,BZ.2 ⟨by simpa using h1,fun k y hy=>by simpa using h2 (k+1) y (by simpa using hy)⟩⟩
variable {vs:Qf}
theorem Hz{agg:Bool}{cs:R8}{y:AV}(h:mkV agg cs=some y)(hv:AH G cs vs):
  ∃u:Value,(if agg then u= .agg vs.toArray else vs=[u])/\RV G y u:=by
 unfold mkV at h;split at h
 .split at h
  .rename_i ds hd;cases h;refine⟨.agg vs.toArray,sm,?_⟩;rw[KE hd,H8]at hv;simp only[RV,RD];exact⟨vs,rfl,hv⟩
  .cases h;exact⟨.agg vs.toArray,sm,by simp only[RV];exact⟨vs,rfl,hv⟩⟩
 .split at h
  .cases h;simp only[AH]at hv;obtain⟨v,r,rfl,h2,rfl⟩:=hv;exact⟨v,sm,h2⟩
  .cases h
theorem Aq(hy:CF P t=some y){off:Nat}(hl:vs.length=y.size)(hc:∀(k:Nat)(v:Value),vs[k]? =some v->w.cell? ⟨b,off+k,none⟩=some v){u:Value}(hu:if y.agg then u= .agg vs.toArray else vs=[u]):
  (loadVar t ⟨b,off,none⟩).run P w= .ok u w:=by
 have hadd:∀k,(⟨b,off,none⟩:Addr).add k=⟨b,off+k,none⟩:=fun k=>by unfold Addr.add;split<;>simp_all
 simp only[loadVar,Qr,Es hy,Ql]
 cases ha:y.agg with
 |true=>
  rw[ha]at hu;simp only[SG]at hu;have h1:=run_loadCells_list (P:=P) w ⟨b,off,none⟩ vs (fun k v hv=>by rw[hadd];exact hc k v hv);simp only[SG,Qr,AG hy,Ql,<-hl,h1,Qu,hu]
 |false=>
  rw[ha]at hu;simp at hu;subst hu;have h1:=hc 0 u sm;simp at h1;simp[h1]
def Gf:RE->Nat->Option (Nat×Nat×Nat×A5)
 |[],_=>none
 | .D5 b N l::_,i=>some (i,b,N,l)
 |_::r,i=>Gf r (i+1)
theorem FH:∀{H:RE}{i id b N:Nat}{l:A5},Gf H i=some (id,b,N,l)->∃k,id=i+k/\H[k]? =some (.D5 b N l)
 |[],i,id,b,N,l,h=>by simp[Gf]at h
 |x::r,i,id,b,N,l,h=>by
  have go:Gf r (i+1)=some (id,b,N,l)->∃k,id=i+k/\(x::r)[k]? =some (.D5 b N l):=fun h=>by
   obtain⟨k,h1,h2⟩:=FH h;exact⟨k+1,om,by simpa using h2⟩
  cases x with
  |D5 b' N' l'=>simp only[Gf,Qj,Qo]at h;obtain⟨rfl,rfl,rfl,rfl⟩:=h;exact⟨0,rfl,rfl⟩
  |_=>exact go h
def Ho(E:Nat->Option AK)(H:RE)(t:Nat)(a:AV):RB:=
 match E t with
 |none=>none
 |some y=>match a with
  | .ptr id off _=>match H[id]? with
   |some (.c cs)=>match EE y.size (D9 off cs)with
    |some l=>match mkV y.agg l with
     |some v=>some (true,v)
     |none=>none
    |none=>none
   |_=>none
  | .dp cs=>match y.agg with
   |true=>match EE y.size cs with
    |some l=>some (true,.d (.agg l))
    |none=>none
   |false=>match cs with
    |d::_=>some (Nat.beq y.size 1,.d d)
    |[]=>none
  | .ep id i off n sz=>match H[id]? with
   |some (.a x)=>match y.agg with
    |true=>some (Nat.beq n (AI x)&&Nat.beq (AU x) sz&&decide (i<n)&&decide (off+y.size<=sz),.d (.agg (((slc x).drop (i*sz+off)).take y.size)))
    |false=>some (Nat.beq n (AI x)&&Nat.beq (AU x) sz&&decide (i<n)&&Nat.beq y.size 1&&decide (off<sz),.d ((slc x).getD (i*sz+off) .np))
   |_=>none
  | .d (.raw (.pointer (some ⟨b,k,none⟩)))=>match Gf H 0 with
   |some (_,b',_,l)=>some (Nat.beq b b'&&decide (k<l.length)&&Nat.beq y.size 1&& !y.agg,.d (.i .u8 ((l.getD k 0).toNat:Int)))
   |none=>none
  |_=>none
theorem addr_add(b off k:Nat):(⟨b,off,none⟩:Addr).add k=⟨b,off+k,none⟩:=by unfold Addr.add;split<;>simp_all
theorem BG{k:Nat}{vs:R2}{T:TypeId}{fr:Nat×Nat}(h:w.heap[b]? =some (.cells vs T fr)):w.cell? ⟨b,k,none⟩=vs[k]?:=cell_of_row w b k vs T fr h
theorem Ew{α:Type}{R:α->Value->Prop}{vs:R2}(off:Nat):∀(cs:List α),(∀(k:Nat)(x:α),cs[k]? =some x->∃v,vs[off+k]? =some v/\R x v)->
  ∃us:Qf,us.length=cs.length/\(∀(k:Nat)(v:Value),us[k]? =some v->vs[off+k]? =some v)/\∀(k:Nat)(x:α),cs[k]? =some x->∃v,us[k]? =some v/\R x v:=by
 intro cs h;refine⟨(List.range cs.length).map fun k=>(vs[off+k]?).getD undef,sm,?_,?_⟩
 .intro k v hv;simp only[RX,RS]at hv;obtain⟨j,hj,rfl⟩:=hv
  have hlt:k<cs.length:=by
   rcases RJ k cs.length with h1|h1
   .exact h1
   .rw[Rn (by simpa using h1)]at hj;cases hj
  rw[List.getElem?_range hlt]at hj;cases hj;obtain⟨u,hu,_⟩:=h k cs[k] (Qm hlt);simp[hu]
 .intro k x hx;obtain⟨u,hu,hr⟩:=h k x hx;have hlt:k<cs.length:=(Qh.1 hx).1;exact⟨u,by simp[List.getElem?_range hlt,hu],hr⟩
theorem DX{α:Type}{l r:List α}{off n:Nat}(hr:r=(l.drop off).take n):∀(k:Nat)(x:α),r[k]? =some x->l[off+k]? =some x:=by
 intro k x hx;rw[hr,SB]at hx;split at hx
 .rwa [SI]at hx
 .cases hx
theorem HI{E:Nat->Option AK}(hE:Ai P E)(hr:AD G w){x y:AV}(h:Ho E G.H t x=some (c,y))(hc:c=true){v:Value}(hx:RV G x v):
  ∃u,(Instr.loadAt t v).run P w= .ok u w/\RV G y u:=by
 subst hc;unfold Ho at h;split at h
 .cases h
 .rename_i ty hty;have hy:=hE t ty hty;split at h
  .rename_i id off cnt;split at h
   .rename_i cs hcs;split at h
    .rename_i l hl;split at h
     .rename_i z hz;cases h;simp only[RV]at hx;obtain⟨_,blk,hb,hp⟩:=hx;rw[hcs]at hb;cases hb;obtain⟨hcnt,b,n,hρ,rfl⟩:=hp;obtain⟨b',N,vs,T,hρ',hw,hN,hle,hcell⟩:=hr.blk id _ hcs;rw[hρ]at hρ';cases hρ';obtain⟨h1,h2⟩:=DJ hl;rw[C3]at h1;have hsub:=DX h1;obtain⟨us,u1,u2,u3⟩:=Ew (R:=RV G) (vs:=vs) off l (fun k x hx=>hcell (off+k) x (hsub k x hx));have hus:AH G l us:=B2.2 ⟨u1,u3⟩;obtain⟨u,hu,hru⟩:=Hz hz hus;refine⟨u,?_,hru⟩;simp only[Instr.loadAt,Instr.sureAddr,Qr,Qu,Ql];exact Aq hy (by rw[u1,h2]) (fun k q hq=>by rw[BG hw];exact u2 k q hq) hu
     .cases h
    .cases h
   .cases h
  .rename_i cs;simp only[RV]at hx;obtain⟨b,off,rfl,hcell⟩:=hx;rw[Cc]at hcell
   have hcl:∀(k:Nat)(d:D),cs[k]? =some d->∃u,w.cell? ⟨b,off+k,none⟩=some u/\RD G.m d u:=fun k d hd=>by
    obtain⟨u,hu,_,hd'⟩:=hcell k d hd;exact⟨u,hr.mem _ _ _ hu,hd'⟩
   split at h
   .rename_i hagg;split at h
    .rename_i l hl;cases h;obtain⟨h1,h2⟩:=DJ hl
     have hsub:∀(k:Nat)(d:D),l[k]? =some d->∃u,w.cell? ⟨b,off+k,none⟩=some u/\RD G.m d u:=fun k d hd=>by
      rw[h1,SB]at hd;split at hd
      .exact hcl k d hd
      .cases hd
     have hlen:∃us:Qf,us.length=l.length/\(∀(k:Nat)(v:Value),us[k]? =some v->w.cell? ⟨b,off+k,none⟩=some v)/\∀(k:Nat)(d:D),l[k]? =some d->∃v,us[k]? =some v/\RD G.m d v:=by
      have:∃vs:R2,∀(k:Nat),k<l.length->vs[off+k]? =w.cell? ⟨b,off+k,none⟩:=
       ⟨((List.range (off+l.length)).map fun k=>(w.cell? ⟨b,k,none⟩).getD undef).toArray,fun k hk=>by
        obtain⟨u,hu,_⟩:=hsub k l[k] (Qm hk)
        simp[List.getElem?_range (by omega:off+k<off+l.length),hu]⟩
      obtain⟨vs,hvs⟩:=this
      obtain⟨us,u1,u2,u3⟩:=Ew (R:=RD G.m) (vs:=vs) off l (fun k d hd=>by
       have hk:k<l.length:=(Qh.1 hd).1;obtain⟨u,hu,hd'⟩:=hsub k d hd
       exact⟨u,by rw[hvs k hk];exact hu,hd'⟩)
      refine⟨us,u1,fun k v hv=> ?_,u3⟩;have hk:k<l.length:=by rw[<-u1];exact(Qh.1 hv).1
      rw[<-hvs k hk];exact u2 k v hv
     obtain⟨us,u1,u2,u3⟩:=hlen;refine⟨.agg us.toArray,?_,by simp only[RV,RD];exact⟨us,rfl,BZ.2 ⟨u1,u3⟩⟩⟩;simp only[Instr.loadAt,Instr.sureAddr,Qr,Qu,Ql];exact Aq hy (by rw[u1,h2]) u2 (by simp[hagg])
    .cases h
   .rename_i hagg;split at h
    .rename_i d rest;simp only[Qj,Qo]at h;obtain⟨hsz,rfl⟩:=h;have hsz:=Qi hsz;obtain⟨u,hu,hd⟩:=hcl 0 d sm;refine⟨u,?_,by simpa only[RV]using hd⟩;simp only[Instr.loadAt,Instr.sureAddr,Qr,Qu,Ql];refine Aq hy (vs:=[u]) (by simp[hsz]) (fun k q hq=> ?_) (by simp[hagg])
     cases k with
     |zero=>simp at hq;subst hq;exact hu
     |succ k=>simp at hq
    .cases h
  .rename_i id i off n sz;split at h
   .rename_i x hx';simp only[RV]at hx;obtain⟨_,blk,hb,hp⟩:=hx;rw[hx']at hb;cases hb;obtain⟨hs1,hs2,hp⟩:=hp;obtain⟨g1,g2,g3⟩:=hr.blk id _ hx';have hlen:=CI g1 g2;split at h
    .rename_i hagg;simp only[Qj,Qo,Qk,Qv]at h;obtain⟨⟨⟨⟨e1,e2⟩,e3⟩,e4⟩,rfl⟩:=h;have e1:=Qi e1;obtain⟨b,N,hρ,rfl⟩:=hp e1;rcases g3 with⟨g3,_⟩|⟨b',N',vs,T,hρ',hw,hN,hcell⟩
     .omega
     .rw[hρ]at hρ';cases hρ'
      have hbound:i*sz+off+ty.size<=(slc x).length:=by
       rw[hlen,hs1];have:(i+1)*sz<=AI x*sz:=Nat.mul_le_mul_right _ om;rw[SA]at this;omega
      have hsub:=DX (l:=slc x) (off:=i*sz+off) (n:=ty.size) rfl;obtain⟨us,u1,u2,u3⟩:=Ew (R:=RD G.m) (vs:=vs) (i*sz+off) _ (fun k d hd=>let⟨u,hu,_,h2⟩:=hcell _ d (hsub k d hd);⟨u,hu,h2⟩);refine⟨.agg us.toArray,?_,by simp only[RV,RD];exact⟨us,rfl,BZ.2 ⟨u1,u3⟩⟩⟩;simp only[Instr.loadAt,Instr.sureAddr,Qr,Qu,Ql];refine Aq hy (by rw[u1];simp;omega) (fun k q hq=>by rw[BG hw];exact u2 k q hq) (by simp[hagg])
    .rename_i hagg;simp only[Qj,Qo,Qk,Qv]at h;obtain⟨⟨⟨⟨⟨e1,e2⟩,e3⟩,e4⟩,e5⟩,rfl⟩:=h;have e1:=Qi e1;have e4:=Qi e4;obtain⟨b,N,hρ,rfl⟩:=hp e1;rcases g3 with⟨g3,_⟩|⟨b',N',vs,T,hρ',hw,hN,hcell⟩
     .omega
     .rw[hρ]at hρ';cases hρ'
      have hbound:i*sz+off<(slc x).length:=by
       rw[hlen,hs1];have:(i+1)*sz<=AI x*sz:=Nat.mul_le_mul_right _ om;rw[SA]at this;omega
      have hget:(slc x)[i*sz+off]? =some ((slc x).getD (i*sz+off) .np):=by
       simp[Qm hbound]
      obtain⟨u,hu,_,hd⟩:=hcell _ _ hget;refine⟨u,?_,by simpa only[RV]using hd⟩;simp only[Instr.loadAt,Instr.sureAddr,Qr,Qu,Ql];refine Aq hy (vs:=[u]) (by simp[e4]) (fun k q hq=> ?_) (by simp[hagg])
      cases k with
      |zero=>simp at hq;subst hq;rw[BG hw];exact hu
      |succ k=>simp at hq
   .cases h
  .rename_i b k;split at h
   .rename_i id b' N l ho;simp only[Qj,Qo,Qk,Qv,Bool.not_eq_true']at h;obtain⟨⟨⟨⟨e1,e2⟩,e3⟩,e4⟩,rfl⟩:=h;have e1:=Qi e1;have e3:=Qi e3;subst e1;obtain⟨j,hj,hb⟩:=FH ho;obtain⟨vs,T,hρ,hw,hN,hle,hcell⟩:=hr.blk j _ hb;simp only[RV,RD]at hx;rw[hx.1];have hget:l[k]? =some (l.getD k 0):=by simp[Qm e2]
    refine⟨.int .u8 ((l.getD k 0).toNat:Int),?_,by simp only[RV,RD]⟩;simp only[Instr.loadAt,Instr.sureAddr,Qr,Qu,Ql];refine Aq hy (vs:=[.int .u8 ((l.getD k 0).toNat:Int)]) (by simp[e3]) (fun q v hq=> ?_) (by simp[e4])
    cases q with
    |zero=>simp at hq;subst hq;rw[BG hw];simpa using hcell k _ hget
    |succ q=>simp at hq
   .cases h
  .cases h
end Go.Gar
namespace Go.Gar
variable {f off:Nat}
theorem Dq{q:Array Field}{ft:Nat}(h:(q.toList.map fun f=>(f.offset,f.type))[f]? =some (off,ft)):∃x,q[f]? =some x/\x.offset=off/\x.type=ft:=by
 simp only[RX,RS,Qo]at h;obtain⟨x,hx,h1,h2⟩:=h;exact⟨x,by simpa using hx,h1,h2⟩
def Dn(E:Nat->Option AK)(H:RE)(s:Nat)(a:AV)(f:Nat):RB:=
 match E s with
 |none=>none
 |some y=>match y.k with
  | .st fs=>match fs[f]? with
   |some (off,ft)=>match E ft with
    |some z=>match a with
     | .ptr id o cnt=>match H[id]? with
      |some (.c _)=>some (!(Nat.beq z.size 0),.ptr id (o+off) cnt)
      |_=>none
     | .dp cs=>some (!(Nat.beq z.size 0),.dp (D9 off cs))
     | .ep id i o n sz=>match H[id]? with
      |some (.a q)=>some (!(Nat.beq z.size 0)&&Nat.beq n (AI q),.ep id i (o+off) n sz)
      |_=>none
     |_=>none
    |none=>none
   |none=>none
  |_=>none
theorem IK{m:Mem}{cs:R6}{b n:Nat}(h:EP m cs b off):EP m (cs.drop n) b (off+n):=by
 rw[Cc]at h|-;intro k d hd;rw[SI]at hd;have:=h _ d hd;rwa [show off+n+k=off+(n+k)by omega]
variable {P:Program}{E:Nat->Option AK}{G:Gh}{w:World}{x y:AV}{c:Bool}{v:Value}
theorem GO(hE:Ai P E){s:Nat}(h:Dn E G.H s x f=some (c,y))(hc:c=true)(hx:RV G x v):∃u,(Instr.fieldAt s v f).run P w= .ok u w/\RV G y u:=by
 subst hc;unfold Dn at h;split at h
 .cases h
 .rename_i ty hty;obtain⟨d,hd,hk,_⟩:=A8 (hE s ty hty) w;split at h
  .rename_i fs hfs;rw[hfs]at hk;obtain⟨q,rfl,rfl⟩:=FG hk;split at h
   .rename_i off ft hf;obtain⟨fl,hfl,rfl,rfl⟩:=Dq hf;split at h
    .rename_i z hz;have hsz:=AG (hE _ z hz) w
     have key:∀a:Addr,(!(Nat.beq z.size 0))=true->(Instr.fieldAt s (.pointer (some a)) f).run P w= .ok (.pointer (some (a.add fl.offset))) w:=by
      intro a hne
      have hne:z.size≠0:=by
       intro e;rw[e]at hne;exact absurd hne (by decide)
      simp only[Instr.fieldAt,Qr,hd,Ql,hfl,Instr.sureAddr,Qu,fieldPlace,hsz,Rw hne]
     split at h
     .rename_i id o cnt;split at h
      .rename_i cs hcs;simp only[Qj,Qo]at h;obtain⟨hne,rfl⟩:=h;simp only[RV]at hx|-;obtain⟨_,blk,hb,hp⟩:=hx;rw[hcs]at hb;cases hb;obtain⟨h1,b,n,h2,rfl⟩:=hp;exact⟨_,key _ hne,rfl,_,hcs,h1,b,n,h2,by rw[addr_add]⟩
      .cases h
     .rename_i cs;simp only[Qj,Qo]at h;obtain⟨hne,rfl⟩:=h;simp only[RV]at hx|-;obtain⟨b,o,rfl,hp⟩:=hx;exact⟨_,key _ hne,b,o+fl.offset,by rw[addr_add],by rw[C3];exact IK hp⟩
     .rename_i id i o n sz;split at h
      .rename_i q hq;simp only[Qj,Qo,Qk]at h;obtain⟨⟨hne,hn⟩,rfl⟩:=h;simp only[RV]at hx|-;obtain⟨_,blk,hb,hp⟩:=hx;rw[hq]at hb;cases hb;obtain⟨h1,h2,h4⟩:=hp;obtain⟨b,N,h5,rfl⟩:=h4 (Qi hn);exact⟨_,key _ hne,rfl,_,hq,h1,h2,fun _=>⟨b,N,h5,by rw[addr_add];congr 3;omega⟩⟩
      .cases h
     .cases h
    .cases h
   .cases h
  .cases h
def JW(y:AK)(x:AV)(off:Nat):RB:=
 match x with
 | .d (.agg cs)=>match y.agg with
  |true=>match EE y.size (D9 off cs)with
   |some l=>some (true,.d (.agg l))
   |none=>none
  |false=>match D9 off cs with
   |d::_=>some (true,.d d)
   |[]=>none
 | .ag cs=>match y.agg with
  |true=>match EE y.size (D9 off cs)with
   |some l=>match mkV true l with
    |some v=>some (true,v)
    |none=>none
   |none=>none
  |false=>match D9 off cs with
   |d::_=>some (true,d)
   |[]=>none
 |_=>none
variable {t:Nat}
theorem Et{y:AK}(hy:CF P t=some y)(w:World)(vs:R2)(off:Nat):
  (part t vs off).run P w=if y.agg then .ok (.agg (vs.extract off (off+y.size))) w else match vs[off]? with|some v=> .ok v w|none=> .halt (.stuck "part: no such cell") w:=by
 simp only[part,Qr,Es hy,Ql]
 cases y.agg with
 |true=>simp[AG hy]
 |false=>
  simp only[Ry,SY];cases vs[off]? <;>rfl
theorem extract_eq{α:Type}(vs:List α)(off n:Nat):vs.toArray.extract off (off+n)=((vs.drop off).take n).toArray:=by
 simp[List.extract_eq_take_drop]
theorem LK{ty:AK}(hy:CF P t=some ty)(h:JW ty x off=some (c,y))(hx:RV G x v):
  ∃vs:R2,v= .agg vs/\∃u,(part t vs off).run P w= .ok u w/\RV G y u:=by
 unfold JW at h;split at h
 .rename_i cs;simp only[RV,RD]at hx;obtain⟨vs,rfl,hvs⟩:=hx;refine⟨_,rfl,?_⟩;rw[Et hy];rw[BZ]at hvs;split at h
  .rename_i hagg;split at h
   .rename_i l hl;cases h;obtain⟨h1,h2⟩:=DJ hl;rw[C3]at h1;have hsub:=DX h1;refine⟨_,by simp only[hagg,SG];rfl,?_⟩;simp only[RV,RD];refine⟨_,by rw[extract_eq],?_⟩;rw[BZ];refine⟨?_,fun k d hd=> ?_⟩
    .rw[h1];simp[hvs.1]
    .obtain⟨u,hu,hr⟩:=hvs.2 _ d (hsub k d hd);have hk:k<ty.size:=by rw[<-h2];exact(Qh.1 hd).1
     exact⟨u,by rw[SB,Rf hk,SI];exact hu,hr⟩
   .cases h
  .rename_i hagg;split at h
   .rename_i d rest hd;cases h;rw[C3]at hd
    have:cs[off]? =some d:=by
     have:=congrArg (·[0]?) hd;simpa using this
    obtain⟨u,hu,hr⟩:=hvs.2 _ d this;exact⟨u,by simp[hagg,hu],by simpa only[RV]using hr⟩
   .cases h
 .rename_i cs;simp only[RV]at hx;obtain⟨vs,rfl,hvs⟩:=hx;refine⟨_,rfl,?_⟩;rw[Et hy];rw[B2]at hvs;split at h
  .rename_i hagg;split at h
   .rename_i l hl;split at h
    .rename_i z hz;cases h;obtain⟨h1,h2⟩:=DJ hl;rw[C3]at h1;have hsub:=DX h1
     have hvl:AH G l ((vs.drop off).take ty.size):=by
      rw[B2];refine⟨?_,fun k d hd=> ?_⟩
      .rw[h1];simp[hvs.1]
      .obtain⟨u,hu,hr⟩:=hvs.2 _ d (hsub k d hd);have hk:k<ty.size:=by rw[<-h2];exact(Qh.1 hd).1
       exact⟨u,by rw[SB,Rf hk,SI];exact hu,hr⟩
     obtain⟨u,hu,hru⟩:=Hz hz hvl;simp only[SG]at hu;subst hu;exact⟨_,by simp only[hagg,SG];rw[extract_eq],hru⟩
    .cases h
   .cases h
  .rename_i hagg;split at h
   .rename_i d rest hd;rw[C3]at hd
    have:cs[off]? =some d:=by
     have:=congrArg (·[0]?) hd;simpa using this
    obtain⟨u,hu,hr⟩:=hvs.2 _ d this;cases h;exact⟨u,by simp[hagg,hu],hr⟩
   .cases h
 .cases h
def Hm(E:Nat->Option AK)(t:Nat)(x:AV)(f:Nat):RB:=
 match E t with
 |none=>none
 |some y=>match y.k with
  | .st fs=>match fs[f]? with
   |some (off,ft)=>match E ft with
    |some z=>JW z x off
    |none=>none
   |none=>none
  |_=>none
theorem JS(hE:Ai P E)(h:Hm E t x f=some (c,y))(hx:RV G x v):
  ∃u,(Instr.field t v f).run P w= .ok u w/\RV G y u:=by
 unfold Hm at h;split at h
 .cases h
 .rename_i ty hty;obtain⟨d,hd,hk,_⟩:=A8 (hE t ty hty) w;split at h
  .rename_i fs hfs;rw[hfs]at hk;obtain⟨q,rfl,rfl⟩:=FG hk;split at h
   .rename_i off ft hf;obtain⟨fl,hfl,rfl,rfl⟩:=Dq hf;split at h
    .rename_i z hz;obtain⟨vs,rfl,u,hu,hr⟩:=LK (hE _ z hz) (w:=w) h hx;refine⟨u,?_,hr⟩;simp only[Instr.field,Qr,hd,Ql,hfl,asAgg,Qu,hu]
    .cases h
   .cases h
  .cases h
def FC(x:AV)(n:Nat):RB:=
 match x with
 | .tup cs=>match cs[n]? with
  |some y=>some (true,y)
  |none=>none
 | .d (.tup cs)=>match cs[n]? with
  |some y=>some (true,.d y)
  |none=>none
 |_=>none
theorem Hl{n:Nat}(h:FC x n=some (c,y))(hx:RV G x v):∃u,(Instr.extract v n).run P w= .ok u w/\RV G y u:=by
 unfold FC at h;split at h
 .rename_i cs;split at h
  .rename_i z hz;simp only[RV]at hx;obtain⟨vs,rfl,hvs⟩:=hx;obtain⟨u,hu,hr⟩:=(B2.1 hvs).2 n z hz;cases h;exact⟨u,by simp[Instr.extract,hu],hr⟩
  .cases h
 .rename_i cs;split at h
  .rename_i z hz;cases h;simp only[RV,RD]at hx;obtain⟨vs,rfl,hvs⟩:=hx;obtain⟨u,hu,hr⟩:=(BZ.1 hvs).2 n z hz;exact⟨u,by simp[Instr.extract,hu],by simpa only[RV]using hr⟩
  .cases h
 .cases h
end Go.Gar
namespace Go.Gar
def Hv(n:Int)(len:Nat):Bool:=decide (0<=n)&&decide (n<(len:Int))
variable {len:Nat}
theorem Bd{n:Int}:Hv n len=true↔0<=n/\n<len:=by simp[Hv]
def Do(E:Nat->Option AK)(H:RE)(t:Nat)(x i:AV):RB:=
 match E t with
 |none=>none
 |some y=>match i with
  | .d (.i _ n)=>match y.k with
   | .sl e=>match E e with
    |none=>none
    |some z=>match x with
     | .d (.by l)=>some (Hv n l.length&&Nat.beq z.size 1,.dp [.i .u8 ((l.getD n.toNat 0).toNat:Int)])
     | .d (.is l)=>some (Hv n l.length&&Nat.beq z.size 1,.dp [.i .i64 (l.getD n.toNat 0)])
     | .d (.sl sz es)=>some (Hv n es.length&&Nat.beq z.size sz,.dp (es.getD n.toNat []))
     | .d (.raw (.slice (some ⟨b,o,none⟩) len _))=>some (Hv n len,.d (.raw (.pointer (some ⟨b,o+n.toNat*z.size,none⟩))))
     | .sl id len sz=>match H[id]? with
      |some (.a q)=>some (Nat.beq len (AI q)&&Hv n len&&Nat.beq z.size sz,.ep id n.toNat 0 len sz)
      |_=>none
     | .bs id off len sz cnt=>match H[id]? with
      |some (.c _)=>some (Hv n len&&Nat.beq z.size sz,.ptr id (off+n.toNat*sz) cnt)
      |_=>none
     |_=>none
   | .arr len e=>match E e with
    |none=>none
    |some z=>match x with
     | .ptr id off cnt=>match H[id]? with
      |some (.c _)=>some (Hv n len,.ptr id (off+n.toNat*z.size) cnt)
      |_=>none
     | .dp cs=>match Nat.beq z.size 1 with
      |true=>some (Hv n len&&decide (n.toNat<cs.length),.dp [cs.getD n.toNat .np])
      |false=>some (Hv n len,.dp (D9 (n.toNat*z.size) cs))
     |_=>none
   |_=>none
  |_=>none
theorem KA{m:Mem}{sz b:Nat}:∀{es:List (R6)}{off:Nat},Ha m sz es b off->∀(k:Nat)(e:R6),es[k]? =some e->e.length=sz/\EP m e b (off+k*sz)
 |[],off,_=>by simp
 |e::es,off,h=>by
  simp only[Ha]at h;intro k x hx
  cases k with
  |zero=>simp at hx;subst hx;simpa using⟨h.1,h.2.1⟩
  |succ k=>
   have:=KA h.2.2 k x (by simpa using hx);rwa [show off+sz+k*sz=off+(k+1)*sz by rw[SA];omega]at this
variable {P:Program}{t e:Nat}{y z:AK}{cap:Nat}{k:IntKind}
theorem BA(hy:CF P t=some y)(hk:y.k= .sl e)(hz:CF P e=some z)(w:World){a:Addr}{n:Int}(h0:0<=n)(h1:n<len):
  (Instr.indexAt t (.slice (some a) len cap) (.int k n)).run P w= .ok (.pointer (some (a.add (n.toNat*z.size)))) w:=by
 obtain⟨d,hd,hk',_⟩:=A8 hy w;rw[hk]at hk';have hk':=Bj hk';subst hk';simp only[Instr.indexAt,asIntOf,Qr,Qu,Ql,hd,Rf (RI h0 h1),Sem.run_ite,AG hz]
theorem CX(hy:CF P t=some y)(hk:y.k= .arr len e)(hz:CF P e=some z)(w:World){a:Addr}{n:Int}(h0:0<=n)(h1:n<len):
  (Instr.indexAt t (.pointer (some a)) (.int k n)).run P w= .ok (.pointer (some (a.add (n.toNat*z.size)))) w:=by
 obtain⟨d,hd,hk',_⟩:=A8 hy w;rw[hk]at hk';have hk':=DW hk';subst hk';simp only[Instr.indexAt,asIntOf,Instr.sureAddr,Qr,Qu,Ql,hd,Rf (RI h0 h1),Sem.run_ite,AG hz]
theorem EI{α:Type}{l:List α}{n:Int}{d:α}(h0:0<=n)(h1:n<l.length):l[n.toNat]? =some (l.getD n.toNat d):=by
 have:n.toNat<l.length:=om
 simp[Qm this]
variable {E:Nat->Option AK}{G:Gh}{w:World}{x:AV}{c:Bool}{v:Value}
theorem GP(hE:Ai P E){i y:AV}(h:Do E G.H t x i=some (c,y))(hc:c=true){u:Value}(hx:RV G x v)(hi:RV G i u):
  ∃r,(Instr.indexAt t v u).run P w= .ok r w/\RV G y r:=by
 subst hc;unfold Do at h;split at h
 .cases h
 .rename_i ty hty;have hy:=hE t ty hty;split at h
  .rename_i k n;simp only[RV,RD]at hi;subst hi;split at h
   .rename_i e hk;split at h
    .cases h
    .rename_i z hz';have hz:=hE e z hz';split at h
     .rename_i l;simp only[Qj,Qo,Qk,Bd]at h;obtain⟨⟨⟨h0,h1⟩,h2⟩,rfl⟩:=h;have h2:=Qi h2;simp only[RV,RD,L2,JL,Rh]at hx;obtain⟨a,cap,rfl,hcap,hx⟩:=hx;rcases hx with hx|⟨b,off,rfl,hx⟩
      .have:l=[]:=by simpa using hx
       subst this;simp at h1;omega
      .refine⟨_,BA hy hk hz w h0 h1,?_⟩;simp only[RV,EP,RD];refine⟨b,off+n.toNat,by rw[addr_add,h2,SE],⟨_,hx n.toNat _ ?_,rfl,rfl⟩,trivial⟩;rw[RX,EI (d:=0) h0 h1];rfl
     .rename_i l;simp only[Qj,Qo,Qk,Bd]at h;obtain⟨⟨⟨h0,h1⟩,h2⟩,rfl⟩:=h;have h2:=Qi h2;simp only[RV,RD,L2,QB,Rh]at hx;obtain⟨a,cap,rfl,hcap,hx⟩:=hx;rcases hx with hx|⟨b,off,rfl,hx⟩
      .have:l=[]:=by simpa using hx
       subst this;simp at h1;omega
      .refine⟨_,BA hy hk hz w h0 h1,?_⟩;simp only[RV,EP,RD];refine⟨b,off+n.toNat,by rw[addr_add,h2,SE],⟨_,hx n.toNat _ ?_,rfl,rfl⟩,trivial⟩;rw[RX,EI (d:=0) h0 h1];rfl
     .rename_i sz es;simp only[Qj,Qo,Qk,Bd]at h;obtain⟨⟨⟨h0,h1⟩,h2⟩,rfl⟩:=h;have h2:=Qi h2;simp only[RV,RD]at hx;obtain⟨a,cap,rfl,hcap,hx⟩:=hx;rcases hx with hx|⟨b,off,rfl,hx⟩
      .subst hx;simp at h1;omega
      .refine⟨_,BA hy hk hz w h0 h1,?_⟩;simp only[RV];refine⟨b,off+n.toNat*sz,by rw[addr_add,h2],?_⟩;exact(KA hx n.toNat _ (EI h0 h1)).2
     .simp only[Qj,Qo,Bd]at h;obtain⟨⟨h0,h1⟩,rfl⟩:=h;simp only[RV,RD]at hx;rw[hx.1];exact⟨_,BA hy hk hz w h0 h1,by simp only[RV,RD];exact⟨by rw[addr_add],rfl⟩⟩
     .rename_i id len sz;split at h
      .rename_i q hq;simp only[Qj,Qo,Qk,Bd]at h;obtain⟨⟨⟨hn,⟨h0,h1⟩⟩,h2⟩,rfl⟩:=h;have h2:=Qi h2;have hn:=Qi hn;simp only[RV]at hx|-;obtain⟨_,blk,hb,hp⟩:=hx;rw[hq]at hb;cases hb;obtain⟨g1,g2,g3⟩:=hp;rcases g3 hn with⟨g4,_⟩|⟨b,N,cap,g4,rfl,g5,g6,g7⟩
       .omega
       .exact⟨_,BA hy hk hz w h0 h1,rfl,_,hq,g1,g2,fun _=>⟨b,N,g4,by rw[addr_add,h2];congr 3;omega⟩⟩
      .cases h
     .rename_i id off len sz cnt;split at h
      .rename_i q hq;simp only[Qj,Qo,Qk,Bd]at h;obtain⟨⟨⟨h0,h1⟩,h2⟩,rfl⟩:=h;have h2:=Qi h2;simp only[RV]at hx|-;obtain⟨_,blk,hb,hp⟩:=hx;rw[hq]at hb;cases hb;obtain⟨g1,g2,b,N,cap,g4,rfl,g5,g6⟩:=hp;exact⟨_,BA hy hk hz w h0 h1,rfl,_,hq,g1,b,N,g4,by rw[addr_add,h2]⟩
      .cases h
     .cases h
   .rename_i len e hk;split at h
    .cases h
    .rename_i z hz';have hz:=hE e z hz';split at h
     .rename_i id off cnt;split at h
      .rename_i q hq;simp only[Qj,Qo,Bd]at h;obtain⟨⟨h0,h1⟩,rfl⟩:=h;simp only[RV]at hx|-;obtain⟨_,blk,hb,hp⟩:=hx;rw[hq]at hb;cases hb;obtain⟨g1,b,N,g4,rfl⟩:=hp;exact⟨_,CX hy hk hz w h0 h1,rfl,_,hq,g1,b,N,g4,by rw[addr_add]⟩
      .cases h
     .rename_i cs;simp only[RV]at hx;obtain⟨b,off,rfl,hx⟩:=hx;split at h
      .rename_i h2;have h2:=Qi h2;simp only[Qj,Qo,Qk,Bd,Qv]at h;obtain⟨⟨⟨h0,h1⟩,h3⟩,rfl⟩:=h;simp only[RV];refine⟨_,CX hy hk hz w h0 h1,b,off+n.toNat,by rw[addr_add,h2,SE],?_⟩;rw[Cc]at hx;simp only[EP,and_true];exact hx n.toNat _ (by simp[Qm h3])
      .simp only[Qj,Qo,Bd]at h;obtain⟨⟨h0,h1⟩,rfl⟩:=h;simp only[RV];exact⟨_,CX hy hk hz w h0 h1,b,off+n.toNat*z.size,by rw[addr_add],by rw[C3];exact IK hx⟩
     .cases h
   .cases h
  .cases h
def Hn(E:Nat->Option AK)(t:Nat)(x i:AV):RB:=
 match E t with
 |none=>none
 |some y=>match i with
  | .d (.i _ n)=>match y.k with
   | .str=>match x with
    | .d (.s l)=>some (Hv n l.length,.d (.i .u8 ((l.getD n.toNat 0).toNat:Int)))
    |_=>none
   | .arr len e=>match E e with
    |none=>none
    |some z=>match x with
     | .d (.agg cs)=>some (Hv n len&&Nat.beq z.size 1&& !z.agg&&decide (n.toNat<cs.length),.d (cs.getD n.toNat .np))
     |_=>none
   |_=>none
  |_=>none
theorem JU(hE:Ai P E){i y:AV}(h:Hn E t x i=some (c,y))(hc:c=true){u:Value}(hx:RV G x v)(hi:RV G i u):
  ∃r,(Instr.index t v u).run P w= .ok r w/\RV G y r:=by
 subst hc;unfold Hn at h;split at h
 .cases h
 .rename_i ty hty;have hy:=hE t ty hty;obtain⟨d,hd,hk',_⟩:=A8 hy w;split at h
  .rename_i k n;simp only[RV,RD]at hi;subst hi;split at h
   .rename_i hk;rw[hk]at hk';have hk':=Cf hk';subst hk';split at h
    .rename_i l;simp only[Qj,Qo,Bd]at h;obtain⟨⟨h0,h1⟩,rfl⟩:=h;simp only[RV,RD]at hx|-;subst hx
     have hg:(⟨l.toArray⟩:ByteArray)[n.toNat]? =some (l.getD n.toNat 0):=by
      have hlt:n.toNat<l.length:=om
      have h2:n.toNat<(⟨l.toArray⟩:ByteArray).size:=by simpa[ByteArray.size]using hlt
      rw[getElem?_pos (⟨l.toArray⟩:ByteArray) n.toNat h2]
      congr 1
      show(⟨l.toArray⟩:ByteArray).data[n.toNat]=_;simp[Qm hlt]
     refine⟨_,?_,rfl⟩;simp only[Instr.index,asIntOf,Qr,Qu,Ql,hd,Rf h0,hg]
    .cases h
   .rename_i len e hk;rw[hk]at hk';have hk':=DW hk';subst hk';split at h
    .cases h
    .rename_i z hz';have hz:=hE e z hz';split at h
     .rename_i cs;simp only[Qj,Qo,Qk,Bd,Qv]at h;obtain⟨⟨⟨⟨⟨h0,h1⟩,h2⟩,h4⟩,h3⟩,rfl⟩:=h;have h2:=Qi h2;simp only[RV,RD]at hx|-;obtain⟨vs,rfl,hvs⟩:=hx;obtain⟨u,hu,hr⟩:=(BZ.1 hvs).2 n.toNat (cs.getD n.toNat .np) (by simp[Qm h3]);have h4:z.agg=false:=by simpa using h4
      refine⟨u,?_,hr⟩;simp only[Instr.index,asIntOf,Qr,Qu,Ql,hd,Rf (RI h0 h1),Sem.run_ite,AG hz,Et hz,h2,h4,SE];simp[hu]
     .cases h
   .cases h
  .cases h
def Bw(n:Nat):D->D
 | .by l=> .by (l.drop n)
 | .is l=> .is (l.drop n)
 | .sl sz es=> .sl sz (es.drop n)
 |x=>x
def takeD(n:Nat):D->D
 | .by l=> .by (l.take n)
 | .is l=> .is (l.take n)
 | .sl sz es=> .sl sz (es.take n)
 |x=>x
def Hr(E:Nat->Option AK)(t:Nat)(x:AV)(lo hi mx:Option (RA)):RB:=
 match E t with
 |none=>none
 |some y=>match y.k,mx with
  | .str,none=>match x with
   | .d (.s l)=>match lo,hi with
    |none,none=>some (true,.d (.s l))
    |some (some (.d (.i _ a))),none=>some (decide (0<=a)&&decide (a<=l.length),.d (.s (l.drop a.toNat)))
    |none,some (some (.d (.i _ b)))=>some (decide (0<=b)&&decide (b<=l.length),.d (.s (l.take b.toNat)))
    |some (some (.d (.i _ a))),some (some (.d (.i _ b)))=>some (decide (0<=a)&&decide (a<=b)&&decide (b<=l.length),.d (.s ((l.take b.toNat).drop a.toNat)))
    |_,_=>none
   |_=>none
  | .sl e,none=>match E e with
   |none=>none
   |some z=>match x with
    | .d q=>match Af q,lo,hi with
     |true,none,none=>some (true,.d q)
     |true,some (some (.d (.i _ a))),none=>some (decide (0<=a)&&decide (a<=AI q)&&Nat.beq z.size (AU q),.d (Bw a.toNat q))
     |true,none,some (some (.d (.i _ b)))=>some (decide (0<=b)&&decide (b<=AI q),.d (takeD b.toNat q))
     |true,some (some (.d (.i _ a))),some (some (.d (.i _ b)))=>some (decide (0<=a)&&decide (a<=b)&&decide (b<=AI q)&&Nat.beq z.size (AU q),.d (Bw a.toNat (takeD b.toNat q)))
     |_,_,_=>none
    | .e0=>match lo,hi with
     |none,none=>some (true,.e0)
     |some (some (.d (.i _ a))),none=>some (a==0,.e0)
     |none,some (some (.d (.i _ b)))=>some (b==0,.e0)
     |some (some (.d (.i _ a))),some (some (.d (.i _ b)))=>some (a==0&&b==0,.e0)
     |_,_=>none
    |_=>none
  | .sl e,some (some (.d (.i _ m)))=>match E e with
   |none=>none
   |some _=>match lo,hi with
    |none,some (some (.d (.i _ b)))=>match x with
     | .d q=>some (Af q&&b==0&&m==0,.e0)
     | .e0=>some (b==0&&m==0,.e0)
     |_=>none
    |_,_=>none
  |_,_=>none
variable {q:D}{n:Nat}
theorem Lf:AI (Bw n q)=AI q-n:=by cases q<;>simp[AI,Bw]
theorem Lg:AI (takeD n q)=min n (AI q):=by cases q<;>simp[AI,takeD]
theorem Jg:Af (Bw n q)=Af q:=by cases q<;>simp[Af,Bw]
theorem Jh:Af (takeD n q)=Af q:=by cases q<;>simp[Af,takeD]
theorem K0:AU (takeD n q)=AU q:=by cases q<;>simp[AU,takeD]
theorem Jy(h:AX q):AX (Bw n q):=by
 cases q<;>simp only[Bw,AX];intro e he;exact h e (List.mem_of_mem_drop he)
theorem Gq(h:AX q):AX (takeD n q):=by
 cases q<;>simp only[takeD,AX];intro e he;exact h e (List.mem_of_mem_take he)
theorem Ee{α:Type}{sz:Nat}:∀{es:List (List α)}{n:Nat},(∀e∈es,e.length=sz)->(es.drop n).flatten=es.flatten.drop (n*sz)
 |[],n,_|e::es,0,_=>by simp
 |e::es,n+1,h=>by
  have he:=h e sm;simp only[List.drop_succ_cons,Rx];rw[Ee (fun x hx=>h x (by simp[hx])),List.drop_append,he];rw[show(n+1)*sz-sz=n*sz by rw[SA];omega];have h3:List.drop ((n+1)*sz) e=[]:=List.drop_of_length_le (by rw[he,SA];omega);rw[h3];simp
theorem Ef{α:Type}{sz:Nat}:∀{es:List (List α)}{n:Nat},(∀e∈es,e.length=sz)->(es.take n).flatten=es.flatten.take (n*sz)
 |[],n,_|e::es,0,_=>by simp
 |e::es,n+1,h=>by
  have he:=h e sm;simp only[List.take_succ_cons,Rx];rw[Ef (fun x hx=>h x (by simp[hx])),List.take_append,he];rw[show(n+1)*sz-sz=n*sz by rw[SA];omega];have h3:List.take ((n+1)*sz) e=e:=List.take_of_length_le (by rw[he,SA];omega);rw[h3]
theorem Lc(h:AX q):slc (Bw n q)=(slc q).drop (n*AU q):=by
 cases q<;>simp[slc,Bw,AU,List.map_drop];exact Ee h
theorem Ld(h:AX q):slc (takeD n q)=(slc q).take (n*AU q):=by
 cases q<;>simp[slc,takeD,AU,List.map_take];exact Ef h
variable {lo hi:Option Value}
theorem Ap(hy:CF P t=some y)(hk:y.k= .sl e)(hz:CF P e=some z)(w:World){a:Option Addr}{l h:Nat}(hlo:lo=none/\l=0\/∃k,lo=some (.int k (l:Int)))(hhi:hi=none/\h=len\/∃k,hi=some (.int k (h:Int)))(h1:l<=h)(h2:h<=cap):
  (Instr.sliceAt t (.slice a len cap) lo hi none).run P w= .ok (.slice (if cap=l then a else a.map (·.add (l*z.size))) (h-l) (cap-l)) w:=by
 obtain⟨d,hd,hk',_⟩:=A8 hy w;rw[hk]at hk';have hk':=Bj hk';subst hk'
 have b1:∀(k:IntKind)(c:BoundsCode),(Instr.sliceBound (.int k (h:Int)) cap c).run P w= .ok h w:=fun k c=>by
  simp only[Instr.sliceBound,asIntOf,Qr,Qu,Ql];rw[Rf ⟨om,om⟩];simp
 have b2:∀(k:IntKind)(c:BoundsCode),(Instr.sliceBound (.int k (l:Int)) h c).run P w= .ok l w:=fun k c=>by
  simp only[Instr.sliceBound,asIntOf,Qr,Qu,Ql];rw[Rf ⟨om,om⟩];simp
 simp only[Instr.sliceAt,Qr,hd,Ql,Instr.slice,Instr.sliceBounds,Qu]
 rcases hlo with⟨rfl,rfl⟩|⟨k,rfl⟩<;>rcases hhi with⟨rfl,rfl⟩|⟨k',rfl⟩<;>
  simp[b1,b2,AG hz]
theorem EO{m:Mem}(hs:Af q=true){a:Option Addr}{l h:Nat}{sz:Nat}(hq:RD m q (.slice a (AI q) cap))(hsz:l=0\/sz=AU q)(h1:l<=h)(h2:h<=AI q):
  RD m (Bw l (takeD h q)) (.slice (if cap=l then a else a.map (·.add (l*sz))) (h-l) (cap-l)):=by
 rw[Bm hs]at hq;obtain⟨a',cap',e,hc,ho,hr⟩:=hq;simp only[Value.slice.injEq,true_and]at e;obtain⟨rfl,rfl⟩:=e;have hs':Af (Bw l (takeD h q))=true:=by rw[Jg,Jh,hs]
 rw[Bm hs'];have hn:AI (Bw l (takeD h q))=h-l:=by rw[Lf,Lg];omega
 refine⟨_,_,by rw[hn],om,Jy (Gq ho),?_⟩;rw[hn];rcases hr with hr|⟨b,off,rfl,hr⟩
 .exact .inl om
 .by_cases hz:h-l=0
  .exact .inl hz
  .refine .inr ⟨b,off+l*AU q,?_,fun k d hd=> ?_⟩
   .rw[Rw om];rcases hsz with rfl|rfl
    .simp[Addr.add]
    .simp[addr_add]
   .rw[Lc (Gq ho),Ld ho,K0,SI,SB]at hd;split at hd
    .have:=hr _ d hd;rwa [show off+l*AU q+k=off+(l*AU q+k)by omega]
    .cases hd
def G5(G:Gh)(o:Option (RA))(v:Option Value):Prop:=
 match o,v with
 |none,none=>True
 |some (some x),some u=>RV G x u
 |some none,some _=>True
 |_,_=>False
theorem BF{v:Option Value}(h:G5 G none v):v=none:=by cases v<;>simp[G5]at h;rfl
theorem C2{n:Int}{v:Option Value}(h:G5 G (some (some (.d (.i k n)))) v):v=some (.int k n):=by
 cases v with
 |none=>simp[G5]at h
 |some u=>simp only[G5,RV,RD]at h;rw[h]
theorem CL(hy:CF P t=some y)(hk:y.k= .str)(w:World){l:A5}{a b:Nat}(hlo:lo=none/\a=0\/∃k,lo=some (.int k (a:Int)))(hhi:hi=none/\b=l.length\/∃k,hi=some (.int k (b:Int)))(h1:a<=b)(h2:b<=l.length):
  (Instr.sliceAt t (.string ⟨l.toArray⟩) lo hi none).run P w= .ok (.string ⟨((l.take b).drop a).toArray⟩) w:=by
 obtain⟨d,hd,hk',_⟩:=A8 hy w;rw[hk]at hk';have hk':=Cf hk';subst hk';have hsz:(⟨l.toArray⟩:ByteArray).size=l.length:=by simp[ByteArray.size]
 have b1:∀(k:IntKind)(c:BoundsCode),(Instr.sliceBound (.int k (b:Int)) l.length c).run P w= .ok b w:=fun k c=>by
  simp only[Instr.sliceBound,asIntOf,Qr,Qu,Ql];rw[Rf ⟨om,om⟩];simp
 have b2:∀(k:IntKind)(c:BoundsCode),(Instr.sliceBound (.int k (a:Int)) b c).run P w= .ok a w:=fun k c=>by
  simp only[Instr.sliceBound,asIntOf,Qr,Qu,Ql];rw[Rf ⟨om,om⟩];simp
 have hext:(⟨l.toArray⟩:ByteArray).extract a b=⟨((l.take b).drop a).toArray⟩:=by
  apply ByteArray.ext;simp[ByteArray.data_extract,List.extract_eq_take_drop,List.drop_take]
 simp only[Instr.sliceAt,Qr,hd,Ql,Instr.slice,Instr.sliceBounds,Qu,hsz]
 rcases hlo with⟨rfl,rfl⟩|⟨k,rfl⟩<;>rcases hhi with⟨rfl,rfl⟩|⟨k',rfl⟩<;>
  simp[b1,b2,hext]
theorem JZ(hE:Ai P E){y:AV}{lo hi mx:Option (RA)}(h:Hr E t x lo hi mx=some (c,y))(hc:c=true){lv hv mv:Option Value}(hx:RV G x v)(hlo:G5 G lo lv)(hhi:G5 G hi hv)(hmx:G5 G mx mv):
  ∃r,(Instr.sliceAt t v lv hv mv).run P w= .ok r w/\RV G y r:=by
 subst hc;unfold Hr at h;split at h
 .cases h
 .rename_i ty hty;have hy:=hE t ty hty;split at h
  ·
   rename_i hk;have:=BF hmx;subst this;split at h
   .rename_i l;simp only[RV,RD]at hx;subst hx;split at h
    .cases h;have:=BF hlo;have:=BF hhi;subst_vars;exact⟨_,CL hy hk w (a:=0) (b:=l.length) (.inl ⟨rfl,rfl⟩) (.inl ⟨rfl,rfl⟩) om om,by simp[RV,RD]⟩
    .rename_i k a;simp only[Qj,Qo,Qk,Qv]at h;obtain⟨⟨h0,h1⟩,rfl⟩:=h;have:=C2 hlo;have:=BF hhi;subst_vars;exact⟨_,CL hy hk w (a:=a.toNat) (b:=l.length) (.inr ⟨k,by rw[Sz h0]⟩) (.inl ⟨rfl,rfl⟩) om om,by simp[RV,RD]⟩
    .rename_i k b;simp only[Qj,Qo,Qk,Qv]at h;obtain⟨⟨h0,h1⟩,rfl⟩:=h;have:=BF hlo;have:=C2 hhi;subst_vars;exact⟨_,CL hy hk w (a:=0) (b:=b.toNat) (.inl ⟨rfl,rfl⟩) (.inr ⟨k,by rw[Sz h0]⟩) om om,by simp[RV,RD]⟩
    .rename_i k a k' b;simp only[Qj,Qo,Qk,Qv]at h;obtain⟨⟨⟨h0,h1⟩,h2⟩,rfl⟩:=h;have:=C2 hlo;have:=C2 hhi;subst_vars;exact⟨_,CL hy hk w (a:=a.toNat) (b:=b.toNat) (.inr ⟨k,by rw[Sz h0]⟩) (.inr ⟨k',by rw[Sz om]⟩) om om,by simp[RV,RD]⟩
    .cases h
   .cases h
  ·
   rename_i e hk;have:=BF hmx;subst this;split at h
   .cases h
   .rename_i z hz';have hz:=hE e z hz';split at h
    .rename_i q;split at h
     .rename_i hs;cases h;have:=BF hlo;have:=BF hhi;subst_vars;simp only[RV]at hx;obtain⟨a,cap,rfl,hcap,_⟩:=(Bm hs).1 hx;have hr:=EO hs (l:=0) (h:=AI q) (sz:=z.size) hx (.inl rfl) om om;refine⟨_,Ap hy hk hz w (l:=0) (h:=AI q) (.inl ⟨rfl,rfl⟩) (.inl ⟨rfl,rfl⟩) om hcap,?_⟩;have e1:Bw 0 (takeD (AI q) q)=q:=by cases q<;>simp[Bw,takeD,AI]
      rw[e1]at hr;simpa only[RV]using hr
     .rename_i k a hs;simp only[Qj,Qo,Qk,Qv]at h;obtain⟨⟨⟨h0,h1⟩,h3⟩,rfl⟩:=h;have h3:=Qi h3;have:=C2 hlo;have:=BF hhi;subst_vars;simp only[RV]at hx;obtain⟨ad,cap,rfl,hcap,_⟩:=(Bm hs).1 hx;have hr:=EO hs (l:=a.toNat) (h:=AI q) (sz:=z.size) hx (.inr h3) om om;refine⟨_,Ap hy hk hz w (l:=a.toNat) (h:=AI q) (.inr ⟨k,by rw[Sz h0]⟩) (.inl ⟨rfl,rfl⟩) om hcap,?_⟩;have e1:takeD (AI q) q=q:=by cases q<;>simp[takeD,AI]
      rw[e1]at hr;simpa only[RV]using hr
     .rename_i k b hs;simp only[Qj,Qo,Qk,Qv]at h;obtain⟨⟨h0,h1⟩,rfl⟩:=h;have:=BF hlo;have:=C2 hhi;subst_vars;simp only[RV]at hx;obtain⟨ad,cap,rfl,hcap,_⟩:=(Bm hs).1 hx;have hr:=EO hs (l:=0) (h:=b.toNat) (sz:=z.size) hx (.inl rfl) om om;refine⟨_,Ap hy hk hz w (l:=0) (h:=b.toNat) (.inl ⟨rfl,rfl⟩) (.inr ⟨k,by rw[Sz h0]⟩) om om,?_⟩;have e1:Bw 0 (takeD b.toNat q)=takeD b.toNat q:=by cases q<;>simp[Bw,takeD]
      rw[e1]at hr;simpa only[RV]using hr
     .rename_i k a k' b hs;simp only[Qj,Qo,Qk,Qv]at h;obtain⟨⟨⟨⟨h0,h1⟩,h2⟩,h3⟩,rfl⟩:=h;have h3:=Qi h3;have:=C2 hlo;have:=C2 hhi;subst_vars;simp only[RV]at hx;obtain⟨ad,cap,rfl,hcap,_⟩:=(Bm hs).1 hx;have hr:=EO hs (l:=a.toNat) (h:=b.toNat) (sz:=z.size) hx (.inr h3) om om;refine⟨_,Ap hy hk hz w (l:=a.toNat) (h:=b.toNat) (.inr ⟨k,by rw[Sz h0]⟩) (.inr ⟨k',by rw[Sz om]⟩) om om,?_⟩;simpa only[RV]using hr
     .cases h
    .simp only[RV]at hx;obtain⟨ad,rfl⟩:=hx;have fin:∀{r:Result Value},r= .ok (.slice (if(0:Nat)=0 then ad else ad.map (·.add (0*z.size))) (0-0) (0-0)) w->∃u,r= .ok u w/\RV G .e0 u:=fun hr=>⟨_,hr,by simp only[RV];exact⟨ad,rfl⟩⟩
     split at h
     .cases h;have:=BF hlo;have:=BF hhi;subst_vars;exact fin (Ap hy hk hz w (l:=0) (h:=0) (.inl ⟨rfl,rfl⟩) (.inl ⟨rfl,rfl⟩) om om)
     .simp only[Qj,Qo,beq_iff_eq]at h;obtain⟨h0,rfl⟩:=h;have:=C2 hlo;have:=BF hhi;subst_vars;exact fin (Ap hy hk hz w (l:=0) (h:=0) (.inr ⟨_,rfl⟩) (.inl ⟨rfl,rfl⟩) om om)
     .simp only[Qj,Qo,beq_iff_eq]at h;obtain⟨h0,rfl⟩:=h;have:=BF hlo;have:=C2 hhi;subst_vars;exact fin (Ap hy hk hz w (l:=0) (h:=0) (.inl ⟨rfl,rfl⟩) (.inr ⟨_,rfl⟩) om om)
     .simp only[Qj,Qo,Qk,beq_iff_eq]at h;obtain⟨⟨h0,h1⟩,rfl⟩:=h;have:=C2 hlo;have:=C2 hhi;subst_vars;exact fin (Ap hy hk hz w (l:=0) (h:=0) (.inr ⟨_,rfl⟩) (.inr ⟨_,rfl⟩) om om)
     .cases h
    .cases h
  ·
   rename_i e k m hk;obtain⟨d,hd,hk',_⟩:=A8 hy w;rw[hk]at hk';have hk':=Bj hk';subst hk';have hm:=C2 hmx;subst hm;split at h
   .cases h
   .rename_i z hz';have hz:=hE e z hz';split at h
    .rename_i k' b;have e1:=BF hlo;have e2:=C2 hhi;subst e1;subst e2
     have b1:∀(c:BoundsCode)(n:Nat)(kk:IntKind),(Instr.sliceBound (.int kk 0) n c).run P w= .ok 0 w:=fun c n kk=>by
      simp only[Instr.sliceBound,asIntOf,Qr,Qu,Ql];rw[Rf ⟨om,om⟩];simp
     have key:∀(a:Option Addr)(len cap:Nat),b=0->m=0->∃r,(Instr.sliceAt t (.slice a len cap) none (some (.int k' b)) (some (.int k m))).run P w= .ok r w/\RV G .e0 r:=by
      intro a len cap hb hm;subst hb;subst hm;refine⟨.slice a 0 0,?_,by simp only[RV];exact⟨a,rfl⟩⟩;simp[Instr.sliceAt,hd,Instr.slice,Instr.sliceBounds,b1,AG hz]
     split at h
     .rename_i q;simp only[Qj,Qo,Qk,beq_iff_eq]at h;obtain⟨⟨⟨hs,hb⟩,hm⟩,rfl⟩:=h;simp only[RV]at hx;obtain⟨a,cap,rfl,_⟩:=(Bm hs).1 hx;exact key _ _ _ hb hm
     .simp only[Qj,Qo,Qk,beq_iff_eq]at h;obtain⟨⟨hb,hm⟩,rfl⟩:=h;simp only[RV]at hx;obtain⟨a,rfl⟩:=hx;exact key _ _ _ hb hm
     .cases h
    .cases h
  .cases h
end Go.Gar
namespace Go.Gar
def MX(E:Nat->Option AK)(H:RE)(t:Nat)(x:AV):RB:=
 match E t with
 |none=>none
 |some y=>match y.k with
  | .str=>match x with
   | .d (.s l)=>some (true,.d (.i .i64 l.length))
   |_=>none
  | .sl _=>match x with
   | .d (.by l)=>some (true,.d (.i .i64 l.length))
   | .d (.is l)=>some (true,.d (.i .i64 l.length))
   | .d (.sl _ es)=>some (true,.d (.i .i64 es.length))
   | .e0=>some (true,.d (.i .i64 0))
   | .d (.raw (.slice _ n _))=>some (true,.d (.i .i64 n))
   | .sl id n _=>match H[id]? with
    |some (.a q)=>some (Nat.beq n (AI q),.d (.i .i64 n))
    |_=>none
   | .bs id _ n _ _=>match H[id]? with
    |some (.c _)=>some (true,.d (.i .i64 n))
    |_=>none
   |_=>none
  | .arr n _=>some (true,.d (.i .i64 n))
  |_=>none
variable {P:Program}{E:Nat->Option AK}{G:Gh}{w:World}{t:Nat}{x y:AV}{c:Bool}{v:Value}
theorem MY(hE:Ai P E){ty:Nat}(h:MX E G.H t x=some (c,y))(hc:c=true)(hx:RV G x v):
  ∃r,(Builtin.len_ #[t] ty #[v]).run P w= .ok r w/\RV G y r:=by
 subst hc;unfold MX at h;split at h
 .cases h
 .rename_i q hty;have hy:=hE t q hty;obtain⟨d,hd,hk',_⟩:=A8 hy w
  have slc:∀{e:Nat}{a:Option Addr}{n cap:Nat},q.k= .sl e->v= .slice a n cap->(Builtin.len_ #[t] ty #[v]).run P w= .ok (.int .i64 n) w:=by
   intro e a n cap hk hv;rw[hk]at hk';have hk':=Bj hk';subst hk';subst hv;simp[Builtin.len_,hd,goInt]
  split at h
  .rename_i hk;split at h
   .rename_i l;cases h;rw[hk]at hk';have hk':=Cf hk';subst hk';simp only[RV,RD]at hx|-;subst hx;refine⟨_,?_,rfl⟩;have hsz:(⟨l.toArray⟩:ByteArray).size=l.length:=by simp[ByteArray.size]
    simp[Builtin.len_,hd,goInt,hsz]
   .cases h
  .rename_i e hk;split at h
   .rename_i l;cases h;simp only[RV,RD,L2,JL,Rh]at hx|-;obtain⟨a,cap,hv,_⟩:=hx;exact⟨_,slc hk hv,rfl⟩
   .rename_i l;cases h;simp only[RV,RD,L2,QB,Rh]at hx|-;obtain⟨a,cap,hv,_⟩:=hx;exact⟨_,slc hk hv,rfl⟩
   .rename_i sz es;cases h;simp only[RV,RD]at hx|-;obtain⟨a,cap,hv,_⟩:=hx;exact⟨_,slc hk hv,rfl⟩
   .cases h;simp only[RV,RD]at hx|-;obtain⟨a,hv⟩:=hx;exact⟨_,slc hk hv,rfl⟩
   .cases h;simp only[RV,RD]at hx|-;exact⟨_,slc hk hx.1,rfl⟩
   .rename_i id n sz;split at h
    .rename_i z hz;simp only[Qj,Qo]at h;obtain⟨hn,rfl⟩:=h;simp only[RV,RD]at hx|-;obtain⟨_,blk,hb,hp⟩:=hx;rw[hz]at hb;cases hb;obtain⟨g1,g2,g3⟩:=hp;rcases g3 (Qi hn)with⟨g4,a,g5⟩|⟨b,N,cap,g4,g5,_⟩
     .exact⟨_,slc hk g5,by rw[g4]⟩
     .exact⟨_,slc hk g5,rfl⟩
    .cases h
   .rename_i id off n sz cnt;split at h
    .rename_i z hz;cases h;simp only[RV,RD]at hx|-;obtain⟨_,blk,hb,hp⟩:=hx;rw[hz]at hb;cases hb;obtain⟨g1,g2,b,N,cap,g4,g5,_⟩:=hp;exact⟨_,slc hk g5,rfl⟩
    .cases h
   .cases h
  .rename_i n e hk;cases h;rw[hk]at hk';have hk':=DW hk';subst hk';simp only[RV,RD];exact⟨_,by simp[Builtin.len_,hd,goInt],rfl⟩
  .cases h
def MZ(H:RE)(x:AV):RB:=
 match x with
 | .ptr id off cnt=>match H[id]? with
  |some (.c _)=>some (true,.ptr id off cnt)
  |_=>none
 | .ep id i off n sz=>match H[id]? with
  |some (.a q)=>some (Nat.beq n (AI q),.ep id i off n sz)
  |_=>none
 | .dp cs=>some (true,.dp cs)
 | .fn (.func f) a b=>some (true,.fn (.func f) a b)
 |_=>none
theorem Ma(h:MZ G.H x=some (c,y))(hc:c=true){a:Act}{o:Oper}{p:Operand}(ho:o.op= .nilCheck p)(hx:RV G x (a.eval p)):
  ∃r,(execOp a.eval o).run P w= .ok (.value r) w/\RV G y r:=by
 subst hc
 have key:∀v,a.eval p=v->(∃q,v= .pointer (some q))\/(∃f p q,v= .func (.func f) p q)->(execOp a.eval o).run P w= .ok (.value v) w:=by
  intro v hv h;unfold execOp;simp only[ho,hv];rcases h with⟨q,rfl⟩|⟨f,p,q,rfl⟩<;>simp
 unfold MZ at h;split at h
 .rename_i id off cnt;split at h
  .rename_i cs hcs;cases h;have hx':=hx;simp only[RV]at hx';obtain⟨_,blk,hb,hp⟩:=hx';rw[hcs]at hb;cases hb;obtain⟨g1,b,N,g2,g3⟩:=hp;exact⟨_,key _ rfl (.inl ⟨_,g3⟩),hx⟩
  .cases h
 .rename_i id i off n sz;split at h
  .rename_i q hq;simp only[Qj,Qo]at h;obtain⟨hn,rfl⟩:=h;have hx':=hx;simp only[RV]at hx';obtain⟨_,blk,hb,hp⟩:=hx';rw[hq]at hb;cases hb;obtain⟨g1,g2,g3⟩:=hp;obtain⟨b,N,g4,g5⟩:=g3 (Qi hn);exact⟨_,key _ rfl (.inl ⟨_,g5⟩),hx⟩
  .cases h
 .rename_i cs;cases h;have hx':=hx;simp only[RV]at hx';obtain⟨b,off,g5,_⟩:=hx';exact⟨_,key _ rfl (.inl ⟨_,g5⟩),hx⟩
 .rename_i f p q;cases h;have hx':=hx;simp only[RV]at hx';obtain⟨p,q,g5,_⟩:=hx';exact⟨_,key _ rfl (.inr ⟨_,_,_,g5⟩),hx⟩
 .cases h
def Ow(E:Nat->Option AK)(H:RE)(t:Nat)(x y:AV):Option Bool:=
 match E t with
 |none=>none
 |some q=>match q.k with
  | .bool=>match x,y with
   | .d (.b a),.d (.b b)=>some (a==b)
   |_,_=>none
  | .fn=>match x,y with
   | .d .nf,.d .nf=>some true
   | .fn _ _ _,.d .nf| .d .nf,.fn _ _ _=>some false
   | .yl id,.d .nf=>match H[id]? with
    |some (.lp _)=>some false
    |_=>none
   |_,_=>none
  | .ptr _=>match x,y with
   | .d .np,.d .np=>some true
   | .ptr id _ _,.d .np=>match H[id]? with
    |some (.c _)=>some false
    |_=>none
   | .dp _,.d .np=>some false
   |_,_=>none
  |_=>none
variable {u:Value}{r:Bool}
theorem CN(h:∀d,(Op.equalIn (d+1) t v u).run P w= .ok r w):(Op.equal t v u).run P w= .ok r w:=h 9999
theorem O0(hE:Ai P E)(h:Ow E G.H t x y=some r)(hx:RV G x v)(hy:RV G y u):
  (Op.equal t v u).run P w= .ok r w/\(∀k n,v≠ .int k n)/\(∀k n,v≠ .float k n)/\(∀s,v≠ .string s)/\(∀k a b,v≠ .complex k a b)/\(∀a,v≠ .agg a)/\v≠ .nilIface:=by
 unfold Ow at h;split at h
 .cases h
 .rename_i q hty;obtain⟨d,hd,hk',hu⟩:=A8 (hE t q hty) w;split at h
  .rename_i hk;rw[hk]at hk';have hk':=En hk';subst hk';split at h
   .rename_i a b;cases h;simp only[RV,RD]at hx hy;subst hx;subst hy;refine⟨?_,sm,sm,sm,sm,sm,sm⟩;exact CN fun d=>by simp only[Op.equalIn,Qr,hd,Ql,Qu,TF,TD]
   .cases h
  .rename_i hk;rw[hk]at hk';obtain⟨f1,f2,f3,rfl⟩:=P2 hk';split at h
   .cases h;simp only[RV,RD]at hx hy;subst hx;subst hy;refine⟨?_,sm,sm,sm,sm,sm,sm⟩;exact CN fun d=>by simp only[Op.equalIn,Qr,hd,Ql,Qu,TF,TD]
   .cases h;simp only[RV,RD]at hx hy;obtain⟨p,q,rfl,_⟩:=hx;subst hy;refine⟨?_,sm,sm,sm,sm,sm,sm⟩;exact CN fun d=>by simp only[Op.equalIn,Qr,hd,Ql,Qu,TF,TD]
   .cases h;simp only[RV,RD]at hx hy;obtain⟨p,q,rfl,_⟩:=hy;subst hx;refine⟨?_,sm,sm,sm,sm,sm,sm⟩;exact CN fun d=>by simp only[Op.equalIn,Qr,hd,Ql,Qu,TF,TD]
   .rename_i id;split at h
    .rename_i lp hlp;cases h;simp only[RV,RD]at hx hy;obtain⟨_,blk,hb,hp⟩:=hx;rw[hlp]at hb;cases hb;obtain⟨b,n,_,rfl⟩:=hp;subst hy;refine⟨?_,sm,sm,sm,sm,sm,sm⟩;exact CN fun d=>by simp only[Op.equalIn,Qr,hd,Ql,Qu,TF,TD]
    .cases h
   .cases h
  .rename_i e hk;rw[hk]at hk';have hk':=O4 hk';subst hk';split at h
   .cases h;simp only[RV,RD]at hx hy;subst hx;subst hy;refine⟨?_,sm,sm,sm,sm,sm,sm⟩;exact CN fun d=>by simp only[Op.equalIn,Qr,hd,Ql,Qu,TF,TD]
   .rename_i id off cnt;split at h
    .rename_i cs hcs;cases h;simp only[RV,RD]at hx hy;obtain⟨_,blk,hb,hp⟩:=hx;rw[hcs]at hb;cases hb;obtain⟨_,b,n,_,rfl⟩:=hp;subst hy;refine⟨?_,sm,sm,sm,sm,sm,sm⟩;exact CN fun d=>by simp only[Op.equalIn,Qr,hd,Ql,Qu,TF,TD]
    .cases h
   .cases h;simp only[RV,RD]at hx hy;obtain⟨b,off,rfl,_⟩:=hx;subst hy;refine⟨?_,sm,sm,sm,sm,sm,sm⟩;exact CN fun d=>by simp only[Op.equalIn,Qr,hd,Ql,Qu,TF,TD]
   .cases h
  .cases h
def eq1:D->D->Bool
 | .i _ a,.i _ b=>a==b
 | .s a,.s b=>a==b
 | .b a,.b b=>a==b
 |_,_=>false
def Fe:R6->R6->Bool
 |[],[]=>true
 |x::xs,y::ys=>eq1 x y&&Fe xs ys
 |_,_=>false
theorem KN:∀{a a' b b':R6},a.length=a'.length->Fe (a++b) (a'++b')=(Fe a a'&&Fe b b')
 |[],[],_,_,_=>by simp[Fe]
 |x::a,y::a',b,b',h=>by
  simp only[List.cons_append,Fe,KN (a:=a) (a':=a') (by simpa using h),Bool.and_assoc]
 |[],_::_,_,_,h=>by cases h
 |_::_,[],_,_,h=>by cases h
mutual
def B9(E:Nat->Option AK):Nat->Nat->R6->Bool
 |0,_,_=>false
 |n+1,t,cs=>match E t with
  |none=>false
  |some y=>match y.k with
   | .int k=>match cs with
    |[.i k' _]=>decide (k'=k)
    |_=>false
   | .str=>match cs with
    |[.s _]=>true
    |_=>false
   | .bool=>match cs with
    |[.b _]=>true
    |_=>false
   | .st fs=>Bc E n fs 0 cs
   | .arr len e=>match E e with
    |some z=>Nat.beq z.size 1&& !z.agg&&Nat.beq cs.length len&&cs.all (fun c=>B9 E n e [c])
    |none=>false
   |_=>false
def Bc(E:Nat->Option AK):Nat->QR->Nat->R6->Bool
 |_,[],_,cs=>cs.isEmpty
 |0,_::_,_,_=>false
 |n+1,(off,ft)::r,o,cs=>match E ft with
  |some z=>Nat.beq off o&&Nat.ble z.size cs.length&&B9 E n ft (cs.take z.size)&&Bc E n r (o+z.size) (cs.drop z.size)
  |none=>false
end
def mkT(y:AK)(vs:Qf):Value:=if y.agg then .agg vs.toArray else vs.headD undef
variable {cs:R6}{vs:Qf}
theorem ES{m:Mem}(h:BJ m cs vs)(k:Nat):BJ m (cs.take k) (vs.take k):=by
 rw[BZ]at h|-;refine⟨by simp[h.1],fun j d hd=> ?_⟩;rw[SB]at hd;split at hd
 .rename_i hj;obtain⟨v,hv,hr⟩:=h.2 j d hd;exact⟨v,by rw[SB,Rf hj];exact hv,hr⟩
 .cases hd
theorem ER{m:Mem}(h:BJ m cs vs)(k:Nat):BJ m (cs.drop k) (vs.drop k):=by
 rw[BZ]at h|-;refine⟨by simp[h.1],fun j d hd=> ?_⟩;rw[SI]at hd;obtain⟨v,hv,hr⟩:=h.2 _ d hd;exact⟨v,by rw[SI];exact hv,hr⟩
theorem IY{n:Nat}{y:AK}(ht:E t=some y)(h:B9 E n t cs=true)(ha:y.agg=false):cs.length=1\/(∃fs,y.k= .st fs)\/(∃a b,y.k= .arr a b):=by
 cases n with
 |zero=>simp[B9]at h
 |succ n=>
  simp only[B9,ht]at h;split at h
  .split at h
   .exact .inl rfl
   .cases h
  .split at h
   .exact .inl rfl
   .cases h
  .split at h
   .exact .inl rfl
   .cases h
  .rename_i fs hk;exact .inr (.inl ⟨fs,hk⟩)
  .rename_i a b hk;exact .inr (.inr ⟨a,b,hk⟩)
  .cases h
theorem Em{d:TypeDesc}:KD d=(match FV d with| .st _=>true| .arr _ _=>true|_=>false):=by
 cases d<;>rfl
theorem Fu{ft:Nat}{z:AK}(hz:CF P ft=some z)(w:World)(vs:Qf)(o:Nat)(h1:z.agg=false->o<vs.length)(h2:z.agg=false->z.size=1):(part ft vs.toArray o).run P w= .ok (mkT z ((vs.drop o).take z.size)) w:=by
 rw[Et hz];unfold mkT
 cases ha:z.agg with
 |true=>simp[extract_eq]
 |false=>
  have h1:=h1 ha;have h2:=h2 ha;simp only[Ry,SY,h2];have e:(vs.drop o).take 1=[vs[o]]:=by rw[List.drop_eq_getElem_cons h1];rfl
  rw[e];simp[h1]
theorem MN{P:Program}{E:Nat->Option AK}(hE:Ai P E){M:Mem}:∀(n:Nat),
  (∀t y cs cs' vs us m d w,E t=some y->B9 E n t cs=true->B9 E n t cs'=true->P.keyTypeAt m t=true->BJ M cs vs->BJ M cs' us->(Op.equalIn (d+m) t (mkT y vs) (mkT y us)).run P w= .ok (Fe cs cs') w/\cs.length=cs'.length)/\
  (∀(fs:List Field) o cs cs' (vs us:Qf) m d w, Bc E n (fs.map fun f=>(f.offset, f.type)) o cs=true->Bc E n (fs.map fun f=>(f.offset, f.type)) o cs'=true->(∀f∈fs, f.name≠ "_" /\P.keyTypeAt m f.type=true)->BJ M cs (vs.drop o)->BJ M cs' (us.drop o)->
   (Op.eqFields (d+m) vs.toArray us.toArray fs).run P w= .ok (Fe cs cs') w/\cs.length=cs'.length)
 |0=>by
  refine⟨fun t y cs cs' vs us m d w _ h=>by simp[B9]at h,fun fs o cs cs' vs us m d w h h' _ _ _=> ?_⟩
  cases fs with
  |nil=>
   simp only[TJ,Bc,List.isEmpty_iff]at h h';subst h;subst h';simp[Op.eqFields,Fe]
  |cons f fs=>simp[Bc]at h
 |n+1=>by
  obtain⟨ih1,ih2⟩:=MN hE (M:=M) n;refine⟨fun t y cs cs' vs us m d w ht h h' hk hv hu=> ?_,fun fs o cs cs' vs us m d w h h' hn hv hu=> ?_⟩
  .obtain⟨i,ds,z0,i1,i2,i3,i4,i5,i6,i7,i8⟩:=Ak (hE t y ht)
   cases m with
   |zero=>simp[Program.keyTypeAt]at hk
   |succ m=>
    simp only[B9,ht]at h h';have hagg:=i7;rw[Em,<-i4]at hagg;split at h
    .rename_i k hyk;rw[hyk]at hagg h';simp only at hagg h';split at h
     .rename_i k1 a;split at h'
      .rename_i k2 b;simp only[Qv]at h h';subst h;subst h';simp only[BJ,RD]at hv hu;obtain⟨_,_,rfl,rfl,rfl⟩:=hv;obtain⟨_,_,rfl,rfl,rfl⟩:=hu;rw[i4]at hyk;have hds:=Cz hyk;subst hds;refine⟨?_,rfl⟩;simp only[mkT,hagg,Ry,SY,List.headD_cons];rw[show d+(m+1)=(d+m)+1 from rfl,run_equalIn_int w (d+m) t _ _ a b i2];simp[Fe,eq1]
      .cases h'
     .cases h
    .rename_i hyk;rw[hyk]at hagg h';simp only at hagg h';split at h
     .rename_i a;split at h'
      .rename_i b;simp only[BJ,RD]at hv hu;obtain⟨_,_,rfl,rfl,rfl⟩:=hv;obtain⟨_,_,rfl,rfl,rfl⟩:=hu;rw[i4]at hyk;have hds:=Cf hyk;subst hds;refine⟨?_,rfl⟩;simp only[mkT,hagg,Ry,SY,List.headD_cons];rw[show d+(m+1)=(d+m)+1 from rfl,run_equalIn_string w (d+m) t _ _ i2];simp[Fe,eq1]
      .cases h'
     .cases h
    .rename_i hyk;rw[hyk]at hagg h';simp only at hagg h';split at h
     .rename_i a;split at h'
      .rename_i b;simp only[BJ,RD]at hv hu;obtain⟨_,_,rfl,rfl,rfl⟩:=hv;obtain⟨_,_,rfl,rfl,rfl⟩:=hu;rw[i4]at hyk;have hds:=En hyk;subst hds;refine⟨?_,rfl⟩;simp only[mkT,hagg,Ry,SY,List.headD_cons];rw[show d+(m+1)=(d+m)+1 from rfl,run_equalIn_bool w (d+m) t a b i2];simp[Fe,eq1]
      .cases h'
     .cases h
    .rename_i fs hyk;rw[hyk]at hagg h';simp only at hagg h';rw[i4]at hyk;obtain⟨q,rfl,rfl⟩:=FG hyk;unfold Program.keyTypeAt at hk;simp only[i2,Qk,Bool.not_eq_true']at hk;have hfs:P.fieldsOf t=q:=by simp[Program.fieldsOf,i2]
     obtain⟨r1,r2⟩:=ih2 q.toList 0 cs cs' vs us m d w h h' (fun f hf=>by
      have:=Array.all_eq_true_iff_forall_mem.1 hk.1.1 f (Array.mem_toList_iff.1 hf);simp only[Qk,bne_iff_ne,ne_eq]at this
      exact this) hv hu
     refine⟨?_,r2⟩;simp only[mkT,hagg,SG];rw[show d+(m+1)=(d+m)+1 from rfl,run_equalIn_struct w (d+m) t _ _ (by rw[hfs];exact i2) hk.2,hfs];exact r1
    .rename_i len e hyk;rw[hyk]at hagg h';simp only at hagg h';split at h
     .rename_i z hz;simp only[hz]at h';simp only[Qk,Bool.not_eq_true']at h h';obtain⟨⟨⟨hs,hza⟩,hl⟩,hall⟩:=h;obtain⟨⟨⟨_,_⟩,hl'⟩,hall'⟩:=h';have hs:=Qi hs;have hl:=Qi hl;have hl':=Qi hl';rw[i4]at hyk;have hds:=DW hyk;subst hds;unfold Program.keyTypeAt at hk;simp only[i2]at hk;obtain⟨iz,dz,zz,j1,j2,j3,j4,j5,j6,j7,j8⟩:=Ak (hE e z hz)
      have hcell:P.cellsOf e=1:=by
       simp[Program.cellsOf,j1,<-j5,hs]
      refine⟨?_,om⟩;simp only[mkT,hagg,SG];rw[show d+(m+1)=(d+m)+1 from rfl,run_equalIn_array w (d+m) _ _ i2 j1,hcell]
      have key:∀(k o:Nat)(cs cs':R6),cs.length=k->cs'.length=k->cs.all (fun c=>B9 E n e [c])=true->cs'.all (fun c=>B9 E n e [c])=true->BJ M cs (vs.drop o)->BJ M cs' (us.drop o)->
        (Op.eqItems (d+m) e 1 vs.toArray us.toArray (List.range' o k)).run P w= .ok (Fe cs cs') w:=by
       intro k
       induction k with
       |zero=>
        intro o cs cs' h1 h2 _ _ _ _;have h1:=List.length_eq_zero_iff.1 h1;have h2:=List.length_eq_zero_iff.1 h2;subst h1;subst h2;simp[Op.eqItems,Fe]
       |succ k ih=>
        intro o cs cs' h1 h2 a1 a2 hv hu
        match cs,cs',h1,h2 with
        |x::cs,x'::cs',h1,h2=>
         simp only[List.all_cons,Qk]at a1 a2;have hv':=hv;have hu':=hu;simp only[BJ]at hv hu;obtain⟨v,vr,hv1,hv2,hv3⟩:=hv;obtain⟨u,ur,hu1,hu2,hu3⟩:=hu
         have lv:o<vs.length:=by
          have:=congrArg List.length hv1;simp at this;omega
         have lu:o<us.length:=by
          have:=congrArg List.length hu1;simp at this;omega
         rw[TL];simp only[Op.eqItems,SE,Qr];simp only[Fu (hE e z hz) w vs o (fun _=>lv) (fun _=>hs),Fu (hE e z hz) w us o (fun _=>lu) (fun _=>hs),Ql];have tv:BJ M [x] ((vs.drop o).take z.size):=by have:=ES hv' 1;rw[hs];exact this
         have tu:BJ M [x'] ((us.drop o).take z.size):=by have:=ES hu' 1;rw[hs];exact this
         obtain⟨r1,_⟩:=ih1 e z [x] [x'] _ _ m d w hz a1.1 a2.1 hk (tv) (tu);rw[r1];simp only[Ql];have hrest:=ih (o+1) cs cs' (by simpa using h1) (by simpa using h2) a1.2 a2.2 (by have:=ER hv' 1;simpa[List.drop_drop]using this) (by have:=ER hu' 1;simpa[List.drop_drop]using this);have e1:Fe (x::cs) (x'::cs')=(Fe [x] [x']&&Fe cs cs'):=by simp[Fe]
         rw[e1]
         cases Fe [x] [x']with
         |false=>simp
         |true=>simpa using hrest
      rw[List.range_eq_range'];exact key len 0 cs cs' hl hl' hall hall' hv hu
     .simp at h
    .cases h
  .cases fs with
   |nil=>
    simp only[TJ,Bc,List.isEmpty_iff]at h h';subst h;subst h';simp[Op.eqFields,Fe]
   |cons f fs=>
    simp only[Ru,Bc]at h h';split at h
    .rename_i z hz;simp only[hz]at h';simp only[Qk]at h h';obtain⟨⟨⟨ho,hle⟩,hf⟩,hr⟩:=h;obtain⟨⟨⟨_,hle'⟩,hf'⟩,hr'⟩:=h';have ho:=Qi ho;have hle:=SH hle;have hle':=SH hle';obtain⟨nm,kt⟩:=hn f sm;obtain⟨iz,dz,zz,j1,j2,j3,j4,j5,j6,j7,j8⟩:=Ak (hE f.type z hz);have lenv:=(BZ.1 hv).1;have lenu:=(BZ.1 hu).1
     have one:z.agg=false->z.size=1:=fun ha=>by
      rcases IY hz hf ha with h|⟨q,h⟩|⟨a,b,h⟩
      .have:=h;rw[List.length_take]at this;rcases IY hz hf' ha with h'|⟨q,h'⟩|⟨a,b,h'⟩
       .rw[List.length_take]at h';omega
       .rw[Em,<-j4,h']at j7;rw[ha]at j7;cases j7
       .rw[Em,<-j4,h']at j7;rw[ha]at j7;cases j7
      .rw[Em,<-j4,h]at j7;rw[ha]at j7;cases j7
      .rw[Em,<-j4,h]at j7;rw[ha]at j7;cases j7
     have lt:z.agg=false->f.offset<vs.length/\f.offset<us.length:=fun ha=>by
      have:=one ha;simp only[List.length_drop]at lenv lenu;omega
     obtain⟨r1,r2⟩:=ih1 f.type z _ _ _ _ m d w hz hf hf' kt (ES hv z.size) (ES hu z.size);obtain⟨s1,s2⟩:=ih2 fs (o+z.size) _ _ vs us m d w hr hr' (fun g hg=>hn g (by simp[hg])) (by have:=ER hv z.size;rwa [List.drop_drop]at this) (by have:=ER hu z.size;rwa [List.drop_drop]at this)
     have e1:Fe cs cs'=(Fe (cs.take z.size) (cs'.take z.size)&&Fe (cs.drop z.size) (cs'.drop z.size)):=by
      rw[<-KN r2,List.take_append_drop,List.take_append_drop]
     refine⟨?_,by simp only[List.length_drop]at s2;omega⟩;subst ho;simp only[Op.eqFields,nm,ne_eq,not_false_eq_true,SG,Qr];simp only[Fu (hE f.type z hz) w vs _ (fun ha=>(lt ha).1) one,Fu (hE f.type z hz) w us _ (fun ha=>(lt ha).2) one,Ql,r1,e1]
     cases Fe (cs.take z.size) (cs'.take z.size)with
     |false=>simp
     |true=>simpa using s1
    .simp at h
def GN(E:Nat->Option AK)(H:RE)(t:Nat)(x y:AV):Option (Bool×Bool):=
 match E t with
 |none=>none
 |some q=>match q.eq with
  |true=>match x,y with
   | .d (.agg cs),.d (.agg cs')=>some (B9 E 40 t cs&&B9 E 40 t cs',Fe cs cs')
   |_,_=>none
  |false=>match Ow E H t x y with
   |some r=>some (true,r)
   |none=>none
theorem MS(hE:Ai P E)(h:GN E G.H t x y=some (c,r))(hc:c=true)(hx:RV G x v)(hy:RV G y u):
  (Op.equal t v u).run P w= .ok r w/\(∀k n,v≠ .int k n)/\(∀k n,v≠ .float k n)/\(∀s,v≠ .string s)/\(∀k a b,v≠ .complex k a b)/\(((∀a,v≠ .agg a)/\v≠ .nilIface)\/(∃a b,v= .agg a/\u= .agg b/\P.eqGuardType P.depth t=false)):=by
 unfold GN at h;split at h
 .cases h
 .rename_i q hq;split at h
  .rename_i he;split at h
   .rename_i cs cs';simp only[Qj,Qo]at h;obtain⟨h1,rfl⟩:=h;rw[hc,Qk]at h1;obtain⟨e1,e2,e3⟩:=O7 (hE t q hq) he;simp only[RV,RD]at hx hy;obtain⟨vs,rfl,hvs⟩:=hx;obtain⟨us,rfl,hus⟩:=hy;obtain⟨r1,_⟩:=(MN hE (M:=G.m) 40).1 t q cs cs' vs us 40 9960 w hq h1.1 h1.2 e2 hvs hus;simp only[mkT,e1,SG]at r1;exact⟨r1,sm,sm,sm,sm,.inr ⟨_,_,rfl,rfl,e3⟩⟩
   .cases h
  .split at h
   .rename_i r' hr;simp only[Qj,Qo]at h;obtain⟨_,rfl⟩:=h;obtain⟨g1,g2,g3,g4,g5,g6,g7⟩:=O0 hE (w:=w) hr hx hy;exact⟨g1,g2,g3,g4,g5,.inl ⟨g6,g7⟩⟩
   .cases h
end Go.Gar
namespace Go.Gar
def LS(E:Nat->Option AK)(e:Nat):Bool:=
 match E e with
 |some y=>match y.k with
  | .int .u8=>true
  |_=>false
 |none=>false
variable {P:Program}{E:Nat->Option AK}
theorem Ce(hE:Ai P E){e:Nat}(h:LS E e=true):P.underlying e=some (.int .u8):=by
 unfold LS at h;split at h
 .rename_i y hy;split at h
  .rename_i hk;obtain⟨i,d,z,h1,h2,h3,h4,_⟩:=Ak (hE e y hy);rw[hk]at h4;have:=Cz h4.symm;rw[h2,this]
  .cases h
 .cases h
def JR(E:Nat->Option AK)(H:RE)(src dst:Nat)(x:AV):RB:=
 match E src,E dst with
 |some s,some d=>match d.k with
  | .int k'=>match x with
   | .d (.i _ n)=>some (Cw k' n,.d (.i k' (Cb k' n)))
   |_=>none
  | .str=>match x with
   | .d (.s l)=>some (true,.d (.s l))
   | .d (.by l)=>match s.k with
    | .sl e=>some (LS E e,.d (.s l))
    |_=>none
   | .e0=>match s.k with
    | .sl e=>some (LS E e,.d (.s []))
    |_=>none
   | .sl id n _=>match s.k,H[id]? with
    | .sl e,some (.a (.by l))=>some (LS E e&&Nat.beq n l.length,.d (.s l))
    |_,_=>none
   |_=>none
  | .sl e=>match x with
   | .d (.s l)=>match s.k with
    | .str=>some (LS E e,.d (.by l))
    |_=>none
   |_=>none
  |_=>none
 |_,_=>none
theorem IE(l:A5):strOfNums (l.map fun x=>(x.toNat:Int))=⟨l.toArray⟩:=by
 apply ByteArray.ext;apply Array.ext';rw[strOfNums_data]
 induction l with
 |nil=>rfl
 |cons x r ih=>simp at ih|-;exact ih
theorem Gn{src dst e:Nat}(hs:P.underlying src=some (.slice e))(he:P.underlying e=some (.int .u8))(hd:P.underlying dst=some .string)(w:World){b off n cap:Nat}{l:A5}(hn:n=l.length)(hc:∀(k:Nat)(x:UInt8),l[k]? =some x->w.cell? ⟨b,off+k,none⟩=some (.int .u8 (x.toNat:Int))):
  (convert src dst (.slice (some ⟨b,off,none⟩) n cap)).run P w= .ok (.string ⟨l.toArray⟩) w:=by
 subst hn
 have:=run_convert_bytes_arg (P:=P) w src e hs he b off l.length cap (l.map fun x=>(x.toNat:Int)) sm (fun i hi=>by
  rw[hc i l[i] (by simp[hi])]
  simp[hi]) dst hd
 rw[this,IE]
variable {G:Gh}{x:AV}{v:Value}
theorem LH(hE:Ai P E){w:World}(hr:AD G w){src dst:Nat}{y:AV}{c:Bool}(h:JR E G.H src dst x=some (c,y))(hc:c=true)(hx:RV G x v):
  Yields P G w (convert src dst v) y:=by
 subst hc;unfold JR at h;split at h
 .rename_i s d hs' hd';obtain⟨ds,hds,hks,hus⟩:=A8 (hE src s hs') w;obtain⟨dd,hdd,hkd,hud⟩:=A8 (hE dst d hd') w;split at h
  .rename_i k' hk;rw[hk]at hkd;have hkd:=Cz hkd;subst hkd;split at h
   .rename_i k n;simp only[Qj,Qo]at h;obtain⟨hf,rfl⟩:=h;simp only[RV,RD]at hx;subst hx;refine Yields.still hr (u:=.int k' (k'.wrap n)) ?_ (by simp[RV,RD,DK hf]);simp only[convert,Qr,hds,hdd,Ql,Conv.intToInt,Qu]
   .cases h
  .rename_i hk;rw[hk]at hkd;have hkd:=Cf hkd;subst hkd;split at h
   .rename_i l;cases h;simp only[RV,RD]at hx;subst hx;refine Yields.still hr (u:=.string ⟨l.toArray⟩) ?_ (by simp[RV,RD]);simp only[convert,Qr,hds,hdd,Ql,Qu]
   .rename_i l;split at h
    .rename_i e hke;simp only[Qj,Qo]at h;obtain⟨hu,rfl⟩:=h;rw[hke]at hks;have hks:=Bj hks;subst hks;simp only[RV,RD,L2,JL,Rh]at hx;obtain⟨a,cap,rfl,hcap,hx⟩:=hx;refine Yields.still hr (u:=.string ⟨l.toArray⟩) ?_ (by simp[RV,RD]);rcases hx with hx|⟨b,off,rfl,hx⟩
     .have:l=[]:=by simpa using hx
      subst this
      cases a with
      |none=>exact run_convert_bytes_nil w src e hus (Ce hE hu) _ _ dst hud
      |some a=>
       rw[run_convert_bytes_string w src dst e _ _ _ hus (Ce hE hu) hud,run_bytesToString w _ _ _ [] (by simp[loadCells,loadCellsFrom])];rfl
     .exact Gn hus (Ce hE hu) hud w rfl (fun k q hq=>hr.mem _ _ _ (hx k _ (by simp[hq])))
    .cases h
   .split at h
    .rename_i e hke;simp only[Qj,Qo]at h;obtain⟨hu,rfl⟩:=h;rw[hke]at hks;have hks:=Bj hks;subst hks;simp only[RV]at hx;obtain⟨a,rfl⟩:=hx;refine Yields.still hr (u:=.string ⟨([]:A5).toArray⟩) ?_ (by simp[RV,RD])
     cases a with
     |none=>exact run_convert_bytes_nil w src e hus (Ce hE hu) _ _ dst hud
     |some a=>
      rw[run_convert_bytes_string w src dst e _ _ _ hus (Ce hE hu) hud,run_bytesToString w _ _ _ [] (by simp[loadCells,loadCellsFrom])];rfl
    .cases h
   .rename_i id n sz;split at h
    .rename_i e l hke hb;simp only[Qj,Qo,Qk]at h;obtain⟨⟨hu,hn⟩,rfl⟩:=h;have hn:=Qi hn;rw[hke]at hks;have hks:=Bj hks;subst hks;simp only[RV]at hx;obtain⟨_,blk,hb',hp⟩:=hx;rw[hb]at hb';cases hb';obtain⟨g1,g2,g3⟩:=hp;refine Yields.still hr (u:=.string ⟨l.toArray⟩) ?_ (by simp[RV,RD]);rcases g3 (by simpa[AI]using hn)with⟨g4,a,rfl⟩|⟨b,N,cap,g4,rfl,_⟩
     .have:l=[]:=SL om;subst this
      cases a with
      |none=>exact run_convert_bytes_nil w src e hus (Ce hE hu) _ _ dst hud
      |some a=>
       rw[run_convert_bytes_string w src dst e _ _ _ hus (Ce hE hu) hud,run_bytesToString w _ _ _ [] (by simp[loadCells,loadCellsFrom])];rfl
     .obtain⟨k1,k2,k3⟩:=hr.blk id _ hb;rcases k3 with⟨k3,k4⟩|⟨b',N',vs,T,k4,k5,k6,k7⟩
      .rw[g4]at k4;cases k4
      .rw[g4]at k4;cases k4;refine Gn hus (Ce hE hu) hud w hn (fun k q hq=> ?_);obtain⟨u,hu',_,hd⟩:=k7 k (.i .u8 q.toNat) (by simp[slc,hq]);simp only[RD]at hd;rw[RZ,BG k5,hu',hd]
    .cases h
   .cases h
  .rename_i e hk;rw[hk]at hkd;have hkd:=Bj hkd;subst hkd;split at h
   .rename_i l;split at h
    .rename_i hke;simp only[Qj,Qo]at h;obtain⟨hu,rfl⟩:=h;rw[hke]at hks;have hks:=Cf hks;subst hks;simp only[RV,RD]at hx;subst hx;have hsz:(⟨l.toArray⟩:ByteArray).size=l.length:=by simp[ByteArray.size]
     obtain⟨hr1,hf1⟩:=Fj hr (w.drawn+1)
     obtain⟨hr2,hf2⟩:=Hw hr1 (bytesRow ⟨l.toArray⟩ (grownCap w (⟨l.toArray⟩:ByteArray).size 0 e)) e ((bytesRow ⟨l.toArray⟩ (grownCap w (⟨l.toArray⟩:ByteArray).size 0 e)).size,(bytesRow ⟨l.toArray⟩ (grownCap w (⟨l.toArray⟩:ByteArray).size 0 e)).size+1) (JL l) (fun k v hv=>by
      simp only[JL,RX,RS]at hv;obtain⟨q,hq,rfl⟩:=hv;have hlt:=(Qh.1 hq).1;have hlq:=(Qh.1 hq).2;simp only[bytesRow];rw[Array.getElem?_append_left (by simpa using hlt)]
      simp[hlt,hlq])
     refine⟨_,_,G.lay w.heap.size (JL l),run_bytes_of_string w src dst e ⟨l.toArray⟩ hus hud (Ce hE hu),?_,rfl,hr2,hf1.trans hf2⟩;have e1:(JL l).length=(⟨l.toArray⟩:ByteArray).size:=by rw[hsz];simp[JL]
     simp only[RV,RD,L2];refine⟨_,_,by rw[e1],by rw[e1];exact grownCap_ge _ _ _ _,.inr ⟨w.heap.size,0,rfl,fun k x hx=> ?_⟩⟩;show(if w.heap.size=w.heap.size then(JL l)[0+k]? else _)=_;rw[Rf rfl,RZ,hx]
    .cases h
   .cases h
  .cases h
 .cases h
def AV.cells:AV->R8
 | .ag cs=>cs
 | .d (.agg cs)=>cs.map .d
 |x=>[x]
def Im:R6->Option (R8)
 |[]=>some []
 |d::r=>match Im r with
  |some l=>some (.d d::l)
  |none=>none
def F8:AV->Option (R8)
 | .ag cs=>some cs
 | .d (.agg cs)=>Im cs
 | .u| .tup _| .d (.tup _)=>none
 |x=>some [x]
theorem Io:∀{ds:R6}{l:R8},Im ds=some l->l=ds.map .d
 |[],l,h=>by simp[Im]at h;subst h;rfl
 |d::ds,l,h=>by
  simp only[Im]at h;split at h
  .rename_i q hq;cases h;rw[Io hq];rfl
  .cases h
def AV.one:AV->Bool
 | .u| .ag _| .tup _| .d (.agg _)| .d (.tup _)=>false
 |_=>true
theorem Jm(h:x.one=true)(hx:RV G x v):v.oneCell'=true:=by
 cases x<;>simp only[AV.one,reduceCtorEq]at h<;>simp only[RV]at hx
 .rename_i d;cases d<;>simp only[AV.one,reduceCtorEq]at h<;>simp only[RD]at hx
  all_goals first
   |(subst hx;rfl)
   |exact hx.1▸hx.2
   |(obtain⟨a,cap,rfl,_⟩:=hx;rfl)
 .exact hx.1
 .exact hx.1
 .exact hx.1
 .exact hx.1
 .obtain⟨a,rfl⟩:=hx;rfl
 .obtain⟨p,q,rfl,_⟩:=hx;rfl
 .exact hx.1
 .obtain⟨b,off,rfl,_⟩:=hx;rfl
 .exact hx.1
theorem cells_one(h:v.oneCell'=true):v.cells= #[v]:=by cases v<;>simp_all[Value.cells,Value.oneCell']
theorem Ci{l:R8}(h:F8 x=some l)(hx:RV G x v):AH G l v.cells.toList:=by
 have key:x.one=true->l=[x]->AH G l v.cells.toList:=by
  intro h1 h2;subst h2;rw[cells_one (Jm h1 hx)];simp only[AH];exact⟨v,[],rfl,hx,rfl⟩
 unfold F8 at h;split at h
 .cases h;simp only[RV]at hx;obtain⟨vs,rfl,hvs⟩:=hx;simpa[Value.cells]using hvs
 .rename_i cs;have:=Io h;subst this;simp only[RV,RD]at hx;obtain⟨vs,rfl,hvs⟩:=hx;rw[H8];simpa[Value.cells]using hvs
 .cases h
 .cases h
 .cases h
 .cases h;refine key ?_ rfl;cases x<;>simp_all[AV.one]
end Go.Gar
namespace Go.Gar
def Gh.own(G:Gh)(b N:Nat)(blk:A2):Gh:={ρ:=fun id=>if id=G.H.length then some (b,N)else G.ρ id,H:=G.H++[blk],m:=G.m}
variable {G:Gh}{id:Nat}{q:A2}
theorem CK{b N:Nat}{blk:A2}(h:(G.own b N blk).H[id]? =some q):(id<G.H.length/\G.H[id]? =some q/\(G.own b N blk).ρ id=G.ρ id)\/(id=G.H.length/\q=blk/\(G.own b N blk).ρ id=some (b,N)):=by
 have h:(G.H++[blk])[id]? =some q:=h;rcases Nat.lt_trichotomy id G.H.length with hlt|heq|hgt
 .rw[Qq hlt]at h;exact .inl ⟨hlt,h,by simp[Gh.own,Nat.ne_of_lt hlt]⟩
 .subst heq;simp at h;exact .inr ⟨rfl,h.symm,by simp[Gh.own]⟩
 .rw[Qx om]at h;rw[Rn (by simp;omega)]at h;cases h
theorem E5(G:Gh)(b N:Nat)(blk:A2):DN G (G.own b N blk) where
 blk id q hq:=by
  have hlt:=(Qh.1 hq).1;refine⟨q,by show(G.H++[blk])[id]? =some q;rw[Qq hlt];exact hq,?_⟩;have hρ:(G.own b N blk).ρ id=G.ρ id:=by simp[Gh.own,Nat.ne_of_lt hlt]
  cases q<;>simp[A6,hρ]
 mem:=Mem.le_refl _
variable {w:World}
theorem Gi(h:AD G w)(cur:R2)(T:TypeId)(blk:A2)(hB:BR (G.own w.heap.size cur.size blk) (w.alloc (.cells cur T)) G.H.length blk)(hnm:∀rs,blk≠ .many rs:=by intro _ e;cases e):
  AD (G.own w.heap.size cur.size blk) (w.alloc (.cells cur T))/\BE G w (G.own w.heap.size cur.size blk) (w.alloc (.cells cur T)):=by
 have hg:=E5 G w.heap.size cur.size blk
 have hS:∀(id:Nat)(rs:List (Option (Nat×Nat×A5))),(G.own w.heap.size cur.size blk).H[id]? =some (.many rs)->G.H[id]? =some (.many rs):=by
  intro id rs hq;rcases CK hq with⟨_,h2,_⟩|⟨_,h2,_⟩
  .exact h2
  .exact absurd h2.symm (hnm rs)
 have hP:∀b,B8 (G.own w.heap.size cur.size blk) b->B8 G b\/b=w.heap.size:=by
  rintro b ⟨id,N,q,hq,hl,hρ⟩;rcases CK hq with⟨_,h2,h3⟩|⟨_,_,h3⟩
  .exact .inl ⟨id,N,q,h2,hl,by rw[<-h3];exact hρ⟩
  .rw[h3]at hρ;cases hρ;exact .inr rfl
 have hold:=IA hS hP;refine⟨⟨?_,?_,?_,?_,h.st,h.mny.of (fun b hb=>Ad h (.inr hb)) hS (fun b hb=>(hP b hb).imp_right (fun e=>Nat.le_of_eq e.symm))⟩,⟨rfl,rfl,rfl,sm,?_,fun b k v hv=> .inl hv,hg⟩⟩
 .intro id q hq;rcases CK hq with⟨h1,h2,h3⟩|⟨h1,h2,h3⟩
  .refine(h.blk id q h2).Gz hg (fun b N hl hρ=> ?_) h3 (fun rs e c hc=>TB w _ c (Ad h (.inr ⟨id,rs,by rw[<-e];exact h2,hc⟩)));exact TB w _ b (Ad h (.inl ⟨id,N,q,h2,hl,hρ⟩))
  .subst h1;subst h2;exact hB
 .intro id id' p q b N N' hp hq lp lq r1 r2;rcases CK hp with⟨h1,h2,h3⟩|⟨h1,h2,h3⟩<;>rcases CK hq with⟨k1,k2,k3⟩|⟨k1,k2,k3⟩
  .rw[h3]at r1;rw[k3]at r2;exact h.inj id id' p q b N N' h2 k2 lp lq r1 r2
  .rw[h3]at r1;rw[k3]at r2;cases r2;have:=Ad h (.inl ⟨id,N,p,h2,lp,r1⟩);omega
  .rw[h3]at r1;rw[k3]at r2;cases r1;have:=Ad h (.inl ⟨id',N',q,k2,lq,r2⟩);omega
  .omega
 .intro b k v hv;have hv:G.m b k=some v:=hv;rw[World.cell?_alloc_lt _ _ _ (DY h hv)];exact h.mem b k v hv
 .intro b ho k;show G.m b k=none;rcases hold b ho with h1|rfl
  .exact h.sep b h1 k
  .cases hv:G.m w.heap.size k with
   |none=>rfl
   |some v=>have:=DY h hv;omega
 .intro b hb ho;refine⟨TB w _ b hb,fun h1=> ?_⟩;rcases hold b h1 with h1|rfl
  .exact ho h1
  .omega
def CJ(P:Program)(G:Gh)(w:World)(s:Sem Value)(y:AV)(H':RE):Prop:=
 ∃u w' G',s.run P w= .ok u w'/\RV G' y u/\G'.H=H'/\AD G' w'/\BE G w G' w'
theorem AH.EJ{xs:R8}{vs:Qf}(h:AH G xs vs):vs.length=xs.length:=(B2.1 h).1
variable {P:Program}{cs:R8}
theorem HP(hr:AD G w)(T:TypeId){v:Value}(hc:AH G cs v.cells.toList):
  ∃w' G',(newVar T v).run P w= .ok ⟨w.heap.size,0,none⟩ w'/\RV G' (.ptr G.H.length 0 cs.length) (.pointer (some ⟨w.heap.size,0,none⟩))/\G'.H=G.H++[.c cs]/\AD G' w'/\BE G w G' w':=by
 have hl:v.cells.size=cs.length:=by have:=AH.EJ hc;simpa using this
 have hgl:=E5 G w.heap.size v.cells.size (.c cs)
 obtain⟨h1,h2⟩:=Gi hr v.cells T (.c cs) (by
  refine⟨w.heap.size,v.cells.size,v.cells,T,by simp[Gh.own],heap_alloc_new w _,rfl,om,fun k x hx=> ?_⟩;obtain⟨u,hu,hrv⟩:=(B2.1 hc).2 k x hx
  exact⟨u,by simpa using hu,hrv.mono hgl⟩)
 refine⟨_,_,rfl,?_,rfl,h1,h2⟩;simp only[RV];exact⟨rfl,.c cs,by simp[Gh.own],rfl,w.heap.size,v.cells.size,by simp[Gh.own],rfl⟩
def MQ(E:Nat->Option AK)(T:Nat)(x:AV):Option (R8):=
 match E T with
 |none=>none
 |some _=>F8 x
variable {E:Nat->Option AK}
theorem MR(hr:AD G w){T:Nat}{x:AV}(h:MQ E T x=some cs){v:Value}(hx:RV G x v):
  CJ P G w (Instr.box T v) (.ptr G.H.length 0 cs.length) (G.H++[.c cs]):=by
 unfold MQ at h;split at h
 .cases h
 .obtain⟨w',G',h1,h2,h3,h4,h5⟩:=HP (P:=P) hr T (Ci h hx);exact⟨_,w',G',by simp[Instr.box,h1],h2,h3,h4,h5⟩
def Gu:Qf->Option (R8)
 |[]=>some []
 |v::r=>match Jl v,Gu r with
  |some x,some l=>some (x::l)
  |_,_=>none
theorem Ey{G:Gh}:∀{vs:Qf}{l:R8},Gu vs=some l->AH G l vs
 |[],l,h=>by simp[Gu]at h;subst h;simp[AH]
 |v::r,l,h=>by
  simp only[Gu]at h;split at h
  .rename_i x q h1 h2;cases h;simp only[AH];exact⟨v,r,rfl,I1 h1,Ey h2⟩
  .cases h
def Hj(E:Nat->Option AK)(T:Nat):Option (R8):=
 match E T with
 |none=>none
 |some y=>Gu y.zero
theorem JO(hE:Ai P E)(hr:AD G w){T:Nat}(h:Hj E T=some cs):
  CJ P G w (Instr.alloc T true (.tuple #[])) (.ptr G.H.length 0 cs.length) (G.H++[.c cs]):=by
 unfold Hj at h;split at h
 .cases h
 .rename_i y hy;obtain⟨z,hz,hzc⟩:=Be (hE T y hy) w;obtain⟨w',G',h1,h2,h3,h4,h5⟩:=HP (P:=P) hr T (v:=z) (by rw[hzc];exact Ey h);exact⟨_,w',G',by simp[Instr.alloc,hz,h1],h2,h3,h4,h5⟩
def H6:Nat->R8->R8->Option (R8)
 |0,[],l=>some l
 |0,x::xs,_::l=>match H6 0 xs l with
  |some r=>some (x::r)
  |none=>none
 |0,_::_,[]=>none
 |n+1,xs,y::l=>match H6 n xs l with
  |some r=>some (y::r)
  |none=>none
 |_+1,_,[]=>none
def setH:Nat->A2->RE->Option (RE)
 |0,b,_::l=>some (b::l)
 |n+1,b,y::l=>match setH n b l with
  |some r=>some (y::r)
  |none=>none
 |_,_,[]=>none
theorem Ev:∀{n:Nat}{xs l r:R8},H6 n xs l=some r->n+xs.length<=l.length/\r=l.take n++xs++l.drop (n+xs.length)
 |0,[],l,r,h=>by simp[H6]at h;subst h;simp
 |0,x::xs,y::l,r,h=>by
  simp only[H6]at h;split at h
  .rename_i q hq;cases h;obtain⟨h1,h2⟩:=Ev hq;refine⟨by simp at h1|-;omega,?_⟩;simp at h2|-;rw[h2]
  .cases h
 |0,x::xs,[],r,h=>by simp[H6]at h
 |n+1,xs,y::l,r,h=>by
  simp only[H6]at h;split at h
  .rename_i q hq;cases h;obtain⟨h1,h2⟩:=Ev hq;refine⟨by simp;omega,?_⟩;rw[h2,show n+1+xs.length=n+xs.length+1 by omega];simp
  .cases h
 |n+1,xs,[],r,h=>by simp[H6]at h
theorem D1:∀{n:Nat}{b:A2}{l r:RE},setH n b l=some r->n<l.length/\r=l.set n b
 |0,b,y::l,r,h=>by simp[setH]at h;subst h;simp
 |n+1,b,y::l,r,h=>by
  simp only[setH]at h;split at h
  .rename_i q hq;cases h;obtain⟨h1,h2⟩:=D1 hq;exact⟨by simpa using h1,by simp[h2]⟩
  .cases h
 |0,b,[],r,h=>by simp[setH]at h
 |n+1,b,[],r,h=>by simp[setH]at h
def Gh.put(G:Gh)(id:Nat)(b:A2):Gh:={G with H:=G.H.set id b}
theorem Fw{o:A2}(ho:G.H[id]? =some o)(hs:A6 G (G.put id q) id o q):DN G (G.put id q):=by
 have hid:id<G.H.length:=(Qh.1 ho).1;refine⟨fun j p hp=> ?_,Mem.le_refl _⟩
 by_cases e:j=id
 .subst e;rw[ho]at hp;cases hp;exact⟨q,by show(G.H.set j q)[j]? =some q;rw[Qs hid],hs⟩
 .exact⟨p,by show(G.H.set id q)[j]? =some p;rw[RG (Ne.symm e)];exact hp,by cases p<;>simp[A6,Gh.put]⟩
theorem FI(h:AD G w){b N:Nat}{o:A2}{cur:R2}(ho:G.H[id]? =some o)(hl:o.live=true)(hl':q.live=true)(hρ:G.ρ id=some (b,N))(hs:A6 G (G.put id q) id o q)(hB:BR (G.put id q) (w.setRow b cur) id q):AD (G.put id q) (w.setRow b cur)/\BE G w (G.put id q) (w.setRow b cur):=by
 have hid:id<G.H.length:=(Qh.1 ho).1
 have hget:∀{j:Nat}{p:A2},(G.put id q).H[j]? =some p->(j=id/\p=q)\/(j≠id/\G.H[j]? =some p):=by
  intro j p hp;have hp:(G.H.set id q)[j]? =some p:=hp
  by_cases e:j=id
  .subst e;rw[Qs hid]at hp;cases hp;exact .inl ⟨rfl,rfl⟩
  .rw[RG (Ne.symm e)]at hp;exact .inr ⟨e,hp⟩
 have hS:∀(j:Nat)(rs:List (Option (Nat×Nat×A5))),(G.put id q).H[j]? =some (.many rs)->G.H[j]? =some (.many rs):=by
  intro j rs hp;rcases hget hp with⟨_,e⟩|⟨_,hp⟩
  .rw[<-e]at hl';simp[A2.live]at hl'
  .exact hp
 have hP:∀c,B8 (G.put id q) c->B8 G c:=by
  rintro c ⟨j,M,p,hp,lp,hr⟩;rcases hget hp with⟨rfl,rfl⟩|⟨e,hp⟩
  .exact⟨j,M,o,ho,hl,hr⟩
  .exact⟨j,M,p,hp,lp,hr⟩
 have hown:∀c,Own (G.put id q) c↔Own G c:=by
  intro c;refine⟨Dr hS hP c,?_⟩;rintro(⟨j,M,p,hp,lp,hr⟩|⟨j,rs,hp,hc⟩)
  .by_cases e:j=id
   .subst e;exact .inl ⟨j,M,q,by show(G.H.set j q)[j]? =some q;rw[Qs hid],hl',hr⟩
   .exact .inl ⟨j,M,p,by show(G.H.set id q)[j]? =some p;rw[RG (Ne.symm e)];exact hp,lp,hr⟩
  .refine .inr ⟨j,rs,?_,hc⟩
   by_cases e:j=id
   .subst e;rw[ho]at hp;cases hp;simp[A2.live]at hl
   .show(G.H.set id q)[j]? =_;rw[RG (Ne.symm e)];exact hp
 have hgl:DN G (G.put id q):=⟨fun j p hp=>by
  by_cases e:j=id
  .subst e;rw[ho]at hp;cases hp;exact⟨q,by show(G.H.set j q)[j]? =some q;rw[Qs hid],hs⟩
  .exact⟨p,by show(G.H.set id q)[j]? =some p;rw[RG (Ne.symm e)];exact hp,by cases p<;>simp[A6,Gh.put]⟩,Mem.le_refl _⟩
 have hoth:∀c,c≠b->(w.setRow b cur).heap[c]? =w.heap[c]?:=fun c hc=>setRow_other w b c cur hc;refine⟨⟨?_,?_,?_,?_,h.st,h.mny.of (fun b hb=>Ad h (.inr hb)) hS (fun c hc=> .inl (hP c hc))⟩,⟨rfl,rfl,rfl,sm,?_,fun _ _ _ hv=> .inl hv,hgl⟩⟩
 .intro j p hp;rcases hget hp with⟨rfl,rfl⟩|⟨e,hp⟩
  .exact hB
  .refine(h.blk j p hp).Gz hgl (fun c M lp hr=>hoth c ?_) rfl (fun rs e c hc=>hoth c fun e'=>by subst e';subst e;exact((h.mny j rs hp).2 c hc).1 ⟨id,N,o,ho,hl,hρ⟩);intro hcb;subst hcb;exact e (h.inj j id p o c M N hp ho lp hl hr hρ)
 .intro j j' p p' c M M' hp hp' lp lp' r1 r2;rcases hget hp with⟨e1,e2⟩|⟨e,hp2⟩<;>rcases hget hp' with⟨e3,e4⟩|⟨e',hp2'⟩
  .exact e1.trans e3.symm
  .subst e1;subst e2;exact h.inj _ _ o p' c M M' ho hp2' hl lp' r1 r2
  .subst e3;subst e4;exact h.inj _ _ p o c M M' hp2 ho lp hl r1 r2
  .exact h.inj _ _ p p' c M M' hp2 hp2' lp lp' r1 r2
 .intro c k v hv;have hv:G.m c k=some v:=hv
  have hcb:c≠b:=by
   intro e;subst e;rw[h.sep c (.inl ⟨id,N,o,ho,hl,hρ⟩) k]at hv;cases hv
  rw[World.cell?_of_block (w:=w) (hoth c hcb)];exact h.mem c k v hv
 .intro c hc k;exact h.sep c ((hown c).1 hc) k
 .intro c hc hno;refine⟨hoth c ?_,fun h1=>hno ((hown c).1 h1)⟩;intro e;subst e;exact hno (.inl ⟨id,N,o,ho,hl,hρ⟩)
theorem DZ{α β:Type}{R:α->β->Prop}{cs xs:List α}{vs us:List β}{off:Nat}(hle:off+xs.length<=cs.length)(hcl:cs.length<=vs.length)(hl:us.length=xs.length)
  (h1:∀(k:Nat)(x:α),cs[k]? =some x->∃v,vs[k]? =some v/\R x v) (h2:∀(k:Nat)(x:α),xs[k]? =some x->∃v,us[k]? =some v/\R x v):
  ∀(k:Nat)(x:α),(cs.take off++xs++cs.drop (off+xs.length))[k]? =some x->∃v,(vs.take off++us++vs.drop (off+us.length))[k]? =some v/\R x v:=by
 intro k x hx;have t1:(cs.take off).length=off:=by simp;omega
 have t2:(vs.take off).length=off:=by simp;omega
 rcases RJ k off with hk|hk
 .rw[Rl,Qq om,SB,Rf hk]at hx;obtain⟨v,hv,hr⟩:=h1 k x hx;refine⟨v,?_,hr⟩;rw[Rl,Qq om,SB,Rf hk];exact hv
 .rcases RJ k (off+xs.length)with hk2|hk2
  .rw[Rl,Qx om,t1,Qq om]at hx;obtain⟨v,hv,hr⟩:=h2 _ x hx;refine⟨v,?_,hr⟩;rw[Rl,Qx om,t2,Qq om];exact hv
  .rw[Qx (by simp;omega),SI]at hx;have e1:off+xs.length+(k-(cs.take off++xs).length)=k:=by simp;omega
   rw[e1]at hx;obtain⟨v,hv,hr⟩:=h1 k x hx;refine⟨v,?_,hr⟩;rw[Qx (by simp;omega),SI];have e2:off+us.length+(k-(vs.take off++us).length)=k:=by simp;omega
   rw[e2];exact hv
def Ac:R8->Bool
 |[]=>true
 |x::r=>x.one&&Ac r
def Hs(E:Nat->Option AK)(H:RE)(t:Nat)(a x:AV):Option (Bool×RE):=
 match E t with
 |none=>none
 |some y=>match F8 x with
  |none=>none
  |some xs=>match a with
   | .ptr id off _=>match H[id]? with
    |some (.c cs)=>match H6 off xs cs with
     |some cs'=>match setH id (.c cs') H with
      |some H'=>some (Nat.beq xs.length y.size&&Ac xs,H')
      |none=>none
     |none=>none
    |_=>none
   | .d (.raw (.pointer (some ⟨b,k,none⟩)))=>match xs,Gf H 0 with
    |[.d (.i .u8 m)],some (id,b',N,l)=>match setH id (.D5 b' N (l.set k (UInt8.ofNat m.toNat))) H with
     |some H'=>some (Nat.beq b b'&&decide (k<l.length)&&Nat.beq y.size 1&&decide (0<=m)&&decide (m<256),H')
     |none=>none
    |_,_=>none
   | .ep id i off n sz=>match xs,H[id]? with
    |[.d d],some (.a (.sl sz' es))=>match setH id (.a (.sl sz' (es.set i ((es.getD i []).set off d)))) H with
     |some H'=>some (Nat.beq n es.length&&Nat.beq sz sz'&&decide (i<n)&&decide (off<sz)&&Nat.beq y.size 1&&(AV.d d).one,H')
     |none=>none
    |_,_=>none
   |_=>none
theorem HB{G:Gh}:∀{xs:R8}{vs:Qf},Ac xs=true->AH G xs vs->∀v∈vs,v.oneCell'=true
 |[],vs,_,h=>by simp only[AH]at h;subst h;simp
 |x::xs,vs,ho,h=>by
  simp only[AH]at h;simp only[Ac,Qk]at ho;obtain⟨v,r,rfl,h1,h2⟩:=h;intro u hu;rcases Si.1 hu with rfl|hu
  .exact Jm ho.1 h1
  .exact HB ho.2 h2 u hu
theorem Gs{α:Type}(l:List α)(i:Nat)(x:α)(h:i<l.length):l.take i++[x]++l.drop (i+1)=l.set i x:=by
 rw[List.set_eq_take_append_cons_drop,Rf h];simp
theorem FT{sz:Nat}(d:D){off:Nat}(hoff:off<sz):∀{es:List (R6)}{i:Nat},(∀e∈es,e.length=sz)->i<es.length->(es.set i ((es.getD i []).set off d)).flatten=es.flatten.set (i*sz+off) d
 |[],_,_,h=>by simp at h
 |e::r,0,ho,_=>by
  have:=ho e sm;simp only[Rt,List.getD_cons_zero,Rx,Nat.zero_mul,RZ];rw[List.set_append_left _ _ om]
 |e::r,i+1,ho,hi=>by
  have h1:=ho e sm;simp only[Rj,List.getD_cons_succ,Rx];rw[FT d hoff (fun x hx=>ho x (by simp[hx])) (by simpa using hi),List.set_append_right _ _ (by rw[h1,SA];omega)]
  congr 2
  rw[h1,SA];omega
theorem Ja(hE:Ai P E)(hr:AD G w){t:Nat}{a x:AV}{c:Bool}{H':RE}(h:Hs E G.H t a x=some (c,H'))(hc:c=true){va vx:Value}(ha:RV G a va)(hx:RV G x vx):∃w' G',(Instr.storeAt t va vx).run P w= .ok () w'/\G'.H=H'/\AD G' w'/\BE G w G' w':=by
 subst hc;unfold Hs at h;split at h
 .cases h
 .rename_i y hy';have hy:=hE t y hy';split at h
  .cases h
  .rename_i xs hxs;split at h
   .rename_i id off cnt;split at h
    .rename_i cs hcs;split at h
     .rename_i cs' hset;split at h
      .rename_i q hq;simp only[Qj,Qo,Qk]at h;obtain⟨⟨hsz,hone⟩,rfl⟩:=h;have hsz:=Qi hsz;obtain⟨hid,rfl⟩:=D1 hq;obtain⟨hfit,rfl⟩:=Ev hset;simp only[RV]at ha;obtain⟨_,blk,hb,hp⟩:=ha;rw[hcs]at hb;cases hb;obtain⟨hcnt,b,N,hρ,rfl⟩:=hp;obtain⟨b',N',vs,T,hρ',hw,hN,hle,hcell⟩:=hr.blk id _ hcs;rw[hρ]at hρ';cases hρ';have hvs:=Ci hxs hx;have hvl:vx.cells.toList.length=xs.length:=AH.EJ hvs;have hst:=run_storeCells_at P b off T vx.cells.toList 0 vs w hw (by simp;simp at hvl;omega) (HB hone hvs);simp only[Sm]at hst;have hlen':(cs.take off++xs++cs.drop (off+xs.length)).length=cs.length:=by simp;omega
       obtain⟨r1,r2⟩:=FI hr (cur:=(vs.toList.take off++vx.cells.toList++vs.toList.drop (off+vx.cells.toList.length)).toArray) hcs rfl (q:=.c (cs.take off++xs++cs.drop (off+xs.length))) rfl hρ (by simp[A6,hlen',Gh.put];omega) (by
        refine⟨b,N,_,T,hρ,setRow_heap w b vs _ T _ hw,?_,by rw[hlen'];exact hle,fun k z hz=> ?_⟩
        .simp;simp at hvl;omega
        .have hgl:DN G (G.put id (.c (cs.take off++xs++cs.drop (off+xs.length)))):=Fw hcs (by simp[A6,hlen',Gh.put];omega);obtain⟨v,hv,hrv⟩:=DZ (R:=RV G) (vs:=vs.toList) (us:=vx.cells.toList) hfit (by simp;omega) hvl (fun k x hx=>by simpa using hcell k x hx) (B2.1 hvs).2 k z hz
         exact⟨v,by simpa using hv,hrv.mono hgl⟩)
       refine⟨_,_,?_,rfl,r1,r2⟩;simp only[Instr.storeAt,Instr.sureAddr,Qr,Qu,Ql,storeVar,AG hy];rw[Rw (by simp at hvl;omega)];exact hst
      .cases h
     .cases h
    .cases h
   .rename_i b k;split at h
    .rename_i m id b' N l ho;split at h
     .rename_i q hq;simp only[Qj,Qo,Qk,Qv]at h;obtain⟨⟨⟨⟨⟨e1,e2⟩,e3⟩,e4⟩,e5⟩,rfl⟩:=h;have e1:=Qi e1;have e3:=Qi e3;subst e1;obtain⟨hid,rfl⟩:=D1 hq;obtain⟨j,hj,hb⟩:=FH ho;have hj:id=j:=om
      subst hj;obtain⟨vs,T,hρ,hw,hN,hle,hcell⟩:=hr.blk id _ hb;simp only[RV,RD]at ha;have hvs:=Ci hxs hx;simp only[AH,RV,RD]at hvs;obtain⟨v,r,hcl,rfl,rfl⟩:=hvs;have hst:=run_storeCells_at P b k T [.int .u8 m] 0 vs w hw (by simp;omega) (by simp[Value.oneCell']);simp only[Sm]at hst;have hmm:(UInt8.ofNat m.toNat).toNat=m.toNat:=by rw[UInt8.toNat_ofNat'];omega
      obtain⟨r1,r2⟩:=FI hr (cur:=(vs.toList.take k++[Value.int .u8 m]++vs.toList.drop (k+1)).toArray) hb rfl (q:=.D5 b N (l.set k (UInt8.ofNat m.toNat))) rfl hρ (by simp[A6,Gh.put]) (by
       refine⟨_,T,hρ,setRow_heap w b vs _ T _ hw,by simp;omega,by simpa using hle,fun j z hz=> ?_⟩;rw[Gs _ _ _ (by simp;omega)];rw[List.getElem?_set]at hz;simp only[List.getElem?_toArray,List.getElem?_set]
       by_cases e:k=j
       .subst e;rw[Rf rfl,Rf e2]at hz;cases hz;rw[Rf rfl,Rf (by simp;omega),hmm]
        congr 2;omega
       .rw[Rw e]at hz|-
        simpa using hcell j z hz)
      refine⟨_,_,?_,rfl,r1,r2⟩;rw[ha.1];simp only[Instr.storeAt,Instr.sureAddr,Qr,Qu,Ql,storeVar,AG hy];have hc1:vx.cells= #[Value.int .u8 m]:=by rw[<-Array.toArray_toList (xs:=vx.cells),hcl]
      rw[Rw (by rw[hc1];simp[e3]),hcl];exact hst
     .cases h
    .cases h
   .rename_i id i off n sz;split at h
    .rename_i d sz' es hes;split at h
     .rename_i q hq;simp only[Qj,Qo,Qk,Qv]at h;obtain⟨⟨⟨⟨⟨⟨e1,e2⟩,e3⟩,e4⟩,e5⟩,e6⟩,rfl⟩:=h;have e1:=Qi e1;have e2:=Qi e2;have e5:=Qi e5;subst e1;subst e2;obtain⟨hid,rfl⟩:=D1 hq;simp only[RV]at ha;obtain⟨_,blk,hb,hp⟩:=ha;rw[hes]at hb;cases hb;obtain⟨_,_,hp⟩:=hp;obtain⟨b,M,hρ,hva⟩:=hp rfl;obtain⟨g1,g2,hB⟩:=hr.blk id _ hes;rcases hB with⟨h0,hno⟩|⟨b',M',vs,T,hρ',hw,hM,hcell⟩
      .rw[hρ]at hno;cases hno
      rw[hρ]at hρ';cases hρ';have hlen:(slc (.sl sz es)).length=es.length*sz:=CI rfl g2
      have hpos:i*sz+off<es.length*sz:=by
       have:(i+1)*sz<=es.length*sz:=Nat.mul_le_mul_right _ om;rw[SA]at this;omega
      have hvl:i*sz+off<vs.size:=by
       obtain⟨v,hv,_⟩:=hcell (i*sz+off) _ (Qm (by rw[hlen];exact hpos));exact(Qp.1 hv).1
      have hvs:=Ci hxs hx;simp only[AH]at hvs;obtain⟨v,r,hcl,hrd,rfl⟩:=hvs;have h1c:=Jm e6 hrd;have hst:=run_storeCells_at P b (i*sz+off) T [v] 0 vs w hw (by simp;omega) (by simpa using h1c);simp only[Sm]at hst;have g2':∀e∈es,e.length=sz:=g2;have hfl:slc (.sl sz (es.set i ((es.getD i []).set off d)))=(slc (.sl sz es)).set (i*sz+off) d:=FT d e4 g2' e3
      obtain⟨r1,r2⟩:=FI hr (cur:=(vs.toList.take (i*sz+off)++[v]++vs.toList.drop (i*sz+off+1)).toArray) hes rfl (q:=.a (.sl sz (es.set i ((es.getD i []).set off d)))) rfl hρ (by simp[A6,Gh.put,AI,AU]) (by
       refine⟨rfl,?_,.inr ⟨b,M,_,T,hρ,setRow_heap w b vs _ T _ hw,by simp;omega,fun j z hz=> ?_⟩⟩
       .intro e he;rcases TK he with he|rfl
        .exact g2' e he
        .rw[SS,Qy,Qm e3];exact g2' _ (List.getElem_mem _)
       .rw[hfl,List.getElem?_set]at hz;rw[Gs _ _ _ (by simpa using hvl)];simp only[List.getElem?_toArray,List.getElem?_set]
        by_cases e:i*sz+off=j
        .rw[Rf e,Rf (by rw[hlen];exact hpos)]at hz;cases hz;rw[Rf e,Rf (by simpa using hvl)];exact⟨v,rfl,h1c,(show RD G.m d v by simpa only[RV]using hrd)⟩
        .rw[Rw e]at hz|-;obtain⟨u,u1,u2,u3⟩:=hcell j z hz
         exact⟨u,by simpa using u1,u2,u3⟩)
      refine⟨_,_,?_,rfl,r1,r2⟩;rw[hva];simp only[Instr.storeAt,Instr.sureAddr,Qr,Qu,Ql,storeVar,AG hy];have hc1:vx.cells= #[v]:=by rw[<-Array.toArray_toList (xs:=vx.cells),hcl]
      rw[Rw (by rw[hc1];simp[e5]),hcl];exact hst
     .cases h
    .cases h
   .cases h
end Go.Gar
namespace Go.Gar
section
variable {P:Program}{w:World}{t u ty e:TypeId}{z:AK}{base:Option Addr}{sLen sCap n:Nat}{x:Value}{news olds:Qf}
theorem DI(ht:P.underlying t=some (.slice e))(hz:CF P e=some z)(hu:(∃e',P.underlying u=some (.slice e'))\/P.underlying u=some .string)
  (hl:∀w':World,(Builtin.lenOf x).run P w'= .ok n w')
  (hfn:∀w':World,w'.heap=w.heap->(Builtin.firstCells z.size n x).run P w'= .ok news.toArray w') (hfo:∀w':World,w'.heap=w.heap->(Builtin.firstCells z.size sLen (.slice base sLen sCap)).run P w'= .ok olds.toArray w')
  (hg:sCap<sLen+n) (h63:sLen+n<=9223372036854775807) (hb:(sLen+n)*z.bytes<=140737488355328):
  ∃zs:R2,zs.size=(grownCap w (sLen+n) sCap e-(sLen+n))*z.zero.length/\(Builtin.append_ #[t,u] ty #[.slice base sLen sCap,x]).run P w=
   .ok (.slice (some ⟨w.heap.size,0,none⟩) (sLen+n) (grownCap w (sLen+n) sCap e)) (w.drew.alloc (.cells (olds.toArray++news.toArray++zs) e)):=by
 obtain⟨i,d,z0,h1,h2,h3,h4,h5,h6,h7,h8⟩:=Ak hz;have hn:¬(sLen+n<=sCap):=om
 have h63':¬(9223372036854775807<((sLen:Int)+(n:Int))):=om
 have hfit:=growslice_fits (need:=sLen+n) (old:=sCap) (bytes:=z.bytes) om hb;rw[h6]at hfit;have h48':¬(281474976710656<Builtin.nextslicecap (sLen+n) sCap*i.bytes):=om
 have hf:=hfn w.drew rfl;have hfo':=hfo w.drew rfl;rw[h5]at hf hfo';refine⟨Builtin.zeroCells z0.cells (grownCap w (sLen+n) sCap e-(sLen+n)),by rw[size_zeroCells,h8];simp,?_⟩;rcases hu with⟨e',hdu⟩|hdu<;>(simp[Builtin.append_,run_underlying ht,run_underlying hdu,sizeOf,typeInfo,zeroValue,h1,h3,hl,hn,h63',h48',Question.forced,hf,hfo',newRow,grownCap];congr 2;apply Array.ext';simp[Rl])
theorem EB(ht:P.underlying t=some (.slice e))(hz:CF P e=some z)(hu:(∃e',P.underlying u=some (.slice e'))\/P.underlying u=some .string)
  (hl:∀w':World,(Builtin.lenOf x).run P w'= .ok n w')
  (hfn:(Builtin.firstCells z.size n x).run P w= .ok news.toArray w) {g o:Nat} {cur:R2} {T:TypeId} (hw:w.heap[g]? =some (.cells cur T (0,0))) (h1:∀v∈news,v.oneCell'=true)
  (hfit:o+sLen*z.size+news.length<=cur.size) (hg:sLen+n<=sCap):
  (Builtin.append_ #[t,u] ty #[.slice (some ⟨g,o,none⟩) sLen sCap,x]).run P w=
   .ok (.slice (some ⟨g,o,none⟩) (sLen+n) sCap) (w.setRow g (cur.toList.take (o+sLen*z.size)++news++cur.toList.drop (o+sLen*z.size+news.length)).toArray):=by
 obtain⟨i,d,z0,h1',h2,h3,h4,h5,h6,h7,h8⟩:=Ak hz;have hst:=run_storeCells_at P g (o+sLen*z.size) T news 0 cur w hw (by simpa using hfit) h1;simp only[Sm]at hst;rw[h5]at hfn hst;rw[h5];rcases hu with⟨e',hdu⟩|hdu<;>simp[Builtin.append_,run_underlying ht,run_underlying hdu,sizeOf,typeInfo,h1',hl,hg,hfn,addr_add,hst]
theorem run_append_nothing(ht:P.underlying t=some (.slice e))(hz:CF P e=some z)(hu:(∃e',P.underlying u=some (.slice e'))\/P.underlying u=some .string)
  (hl:∀w':World,(Builtin.lenOf x).run P w'= .ok 0 w') (hfn:(Builtin.firstCells z.size 0 x).run P w= .ok #[] w):
  (Builtin.append_ #[t,u] ty #[.slice base sLen sCap,x]).run P w= .ok (.slice base sLen sCap) w\/sCap<sLen:=by
 obtain⟨i,d,z0,h1',h2,h3,h4,h5,h6,h7,h8⟩:=Ak hz;rcases RJ sCap sLen with h|hg
 .exact .inr h
 .refine .inl ?_;rw[h5]at hfn;rcases hu with⟨e',hdu⟩|hdu<;>cases base<;>simp[Builtin.append_,run_underlying ht,run_underlying hdu,sizeOf,typeInfo,h1',hl,hg,hfn,storeCells]
end
end Go.Gar
namespace Go.Gar
def Gh.move(G:Gh)(id b N:Nat)(q:A2):Gh:={ρ:=fun j=>if j=id then some (b,N)else G.ρ j,H:=G.H.set id q,m:=G.m}
variable {G:Gh}{w:World}{id:Nat}
theorem O8(h:AD G w){o q:A2}(ho:G.H[id]? =some o)(hl':q.live=true)(cur:R2)(T:TypeId)(hs:A6 G (G.move id w.heap.size cur.size q) id o q)(hB:DN G (G.move id w.heap.size cur.size q)->BR (G.move id w.heap.size cur.size q) (w.alloc (.cells cur T)) id q):
  AD (G.move id w.heap.size cur.size q) (w.alloc (.cells cur T))/\BE G w (G.move id w.heap.size cur.size q) (w.alloc (.cells cur T)):=by
 have hid:id<G.H.length:=(Qh.1 ho).1;have hρs:(G.move id w.heap.size cur.size q).ρ id=some (w.heap.size,cur.size):=by simp[Gh.move]
 have hρo:∀j,j≠id->(G.move id w.heap.size cur.size q).ρ j=G.ρ j:=fun j hj=>by simp[Gh.move,hj]
 have hHs:(G.move id w.heap.size cur.size q).H[id]? =some q:=by show(G.H.set id q)[id]? =_;rw[Qs hid]
 have hHo:∀j,j≠id->(G.move id w.heap.size cur.size q).H[j]? =G.H[j]?:=fun j hj=>by show(G.H.set id q)[j]? =_;rw[RG (Ne.symm hj)]
 have hget:∀{j:Nat}{p:A2},(G.move id w.heap.size cur.size q).H[j]? =some p->(j=id/\p=q)\/(j≠id/\G.H[j]? =some p):=by
  intro j p hp
  by_cases e:j=id
  .subst e;rw[hHs]at hp;cases hp;exact .inl ⟨rfl,rfl⟩
  .rw[hHo j e]at hp;exact .inr ⟨e,hp⟩
 have hS:∀(j:Nat)(rs:List (Option (Nat×Nat×A5))),(G.move id w.heap.size cur.size q).H[j]? =some (.many rs)->G.H[j]? =some (.many rs):=by
  intro j rs hp;rcases hget hp with⟨_,e⟩|⟨_,hp⟩
  .rw[<-e]at hl';simp[A2.live]at hl'
  .exact hp
 have hP:∀c,B8 (G.move id w.heap.size cur.size q) c->B8 G c\/c=w.heap.size:=by
  rintro c ⟨j,M,p,hp,lp,hr⟩;rcases hget hp with⟨rfl,rfl⟩|⟨e,hp⟩
  .rw[hρs]at hr;cases hr;exact .inr rfl
  .rw[hρo j e]at hr;exact .inl ⟨j,M,p,hp,lp,hr⟩
 have hold:=IA hS hP
 have hgl:DN G (G.move id w.heap.size cur.size q):=⟨fun j p hp=>by
  by_cases e:j=id
  .subst e;rw[ho]at hp;cases hp;exact⟨q,hHs,hs⟩
  .exact⟨p,by rw[hHo j e];exact hp,by cases p<;>simp[A6,hρo j e]⟩,Mem.le_refl _⟩
 have hheap:∀b,b<w.heap.size->(w.alloc (.cells cur T)).heap[b]? =w.heap[b]?:=fun b hb=>TB w _ b hb;refine⟨⟨?_,?_,?_,?_,h.st,h.mny.of (fun b hb=>Ad h (.inr hb)) hS (fun b hb=>(hP b hb).imp_right (fun e=>Nat.le_of_eq e.symm))⟩,⟨rfl,rfl,rfl,sm,?_,fun _ _ _ hv=> .inl hv,hgl⟩⟩
 .intro j p hp;rcases hget hp with⟨rfl,rfl⟩|⟨e,hp⟩
  .exact hB hgl
  .exact(h.blk j p hp).Gz hgl (fun c M lp hr=>hheap c (Ad h (.inl ⟨j,M,p,hp,lp,hr⟩))) (hρo j e) (fun rs e c hc=>hheap c (Ad h (.inr ⟨j,rs,by rw[<-e];exact hp,hc⟩)))
 .intro j j' p p' c M M' hp hp' lp lp' r1 r2;rcases hget hp with⟨e1,e2⟩|⟨e,hp2⟩<;>rcases hget hp' with⟨e3,e4⟩|⟨e',hp2'⟩
  .exact e1.trans e3.symm
  .subst e1;rw[hρs]at r1;cases r1;rw[hρo j' e']at r2;have:=Ad h (.inl ⟨j',M',p',hp2',lp',r2⟩);omega
  .subst e3;rw[hρs]at r2;cases r2;rw[hρo j e]at r1;have:=Ad h (.inl ⟨j,M,p,hp2,lp,r1⟩);omega
  .rw[hρo j e]at r1;rw[hρo j' e']at r2;exact h.inj _ _ p p' c M M' hp2 hp2' lp lp' r1 r2
 .intro c k v hv;have hv:G.m c k=some v:=hv;rw[World.cell?_alloc_lt _ _ _ (DY h hv)];exact h.mem c k v hv
 .intro c hc k;show G.m c k=none;rcases hold c hc with h1|rfl
  .exact h.sep c h1 k
  .cases hv:G.m w.heap.size k with
   |none=>rfl
   |some v=>have:=DY h hv;omega
 .intro c hc hno;refine⟨hheap c hc,fun h1=> ?_⟩;rcases hold c h1 with h1|rfl
  .exact hno h1
  .omega
def OI(E:Nat->Option AK)(H:RE)(u:Nat)(x:AV):Option (Bool×D):=
 match E u with
 |none=>none
 |some y=>match y.k,x with
  | .sl _,.d q=>some (Af q,q)
  | .sl _,.sl id n _=>match H[id]? with
   |some (.a q)=>some (Nat.beq n (AI q),q)
   |_=>none
  | .str,.d (.s l)=>some (true,.by l)
  |_,_=>none
variable {P:Program}{E:Nat->Option AK}{u:Nat}{x:AV}{q:D}{c:Bool}{v:Value}
theorem Kx(hE:Ai P E)(hr:AD G w)(h:OI E G.H u x=some (c,q))(hc:c=true)(hx:RV G x v):
  Af q=true/\AX q/\((∃e',P.underlying u=some (.slice e'))\/P.underlying u=some .string)/\∃news:Qf,(∀w':World,(Builtin.lenOf v).run P w'= .ok (AI q) w')/\
   (∀w':World,w'.heap=w.heap->(Builtin.firstCells (AU q) (AI q) v).run P w'= .ok news.toArray w')/\news.length=(slc q).length/\
   ∀(k:Nat)(d:D),(slc q)[k]? =some d->∃v,news[k]? =some v/\v.oneCell'=true/\RD G.m d v:=by
 subst hc;unfold OI at h;split at h
 .cases h
 .rename_i y hy';have hy:=hE u y hy';obtain⟨d,hd,hk',hu⟩:=A8 hy w
  have key:Af q=true->AX q->∀(a:Option Addr)(cap:Nat),v= .slice a (AI q) cap->(AI q=0\/∃b off,a=some ⟨b,off,none⟩/\∀(k:Nat)(d:D),(slc q)[k]? =some d->∃u,w.cell? ⟨b,off+k,none⟩=some u/\u.oneCell'=true/\RD G.m d u)->
    ∃news:Qf,(∀w':World,(Builtin.lenOf v).run P w'= .ok (AI q) w')/\(∀w':World,w'.heap=w.heap->(Builtin.firstCells (AU q) (AI q) v).run P w'= .ok news.toArray w')/\news.length=(slc q).length/\
    ∀(k:Nat)(d:D),(slc q)[k]? =some d->∃v,news[k]? =some v/\v.oneCell'=true/\RD G.m d v:=by
   intro hs ho a cap hv hcells;have hlen:=CI hs ho;rcases hcells with h0|⟨b,off,rfl,hcell⟩
   .refine⟨[],fun w'=>by rw[hv];simp[Builtin.lenOf],fun w' _=> ?_,by rw[hlen,h0];simp,fun k d hd=> ?_⟩
    .rw[hv,h0]
     cases a with
     |none=>simp[Builtin.firstCells]
     |some a=>simp[Builtin.firstCells,loadCells,loadCellsFrom]
    .have:(slc q).length=0:=by rw[hlen,h0];simp
     rw[SL this]at hd;simp at hd
   .have hex:∃vs:R2,∀(k:Nat),k<(slc q).length->vs[off+k]? =w.cell? ⟨b,off+k,none⟩:=
     ⟨((List.range (off+(slc q).length)).map fun k=>(w.cell? ⟨b,k,none⟩).getD undef).toArray,fun k hk=>by
      obtain⟨u,hu,_⟩:=hcell k (slc q)[k] (Qm hk)
      simp[List.getElem?_range (by omega:off+k<off+(slc q).length),hu]⟩
    obtain⟨vs,hvs⟩:=hex
    obtain⟨us,u1,u2,u3⟩:=Ew (R:=fun d v=>v.oneCell'=true/\RD G.m d v) (vs:=vs) off (slc q) (fun k d hd=>by
     have hk:k<(slc q).length:=(Qh.1 hd).1;obtain⟨u,hu,hd'⟩:=hcell k d hd
     exact⟨u,by rw[hvs k hk];exact hu,hd'⟩)
    refine⟨us,fun w'=>by rw[hv];simp[Builtin.lenOf],fun w' hw'=> ?_,u1,u3⟩;rw[hv];refine run_firstCells_some w' (AU q) (AI q) ⟨b,off,none⟩ _ _ us (by rw[u1,hlen]) (fun j u hj=> ?_);have hk:j<(slc q).length:=by rw[<-u1];exact(Qh.1 hj).1
    rw[addr_add,World.cell?_of_block (w:=w) (by rw[hw']),<-hvs j hk];exact u2 j u hj
  split at h
  .rename_i e q' hk;simp only[Qj,Qo]at h;obtain⟨hs,rfl⟩:=h;rw[hk]at hk';have hk':=Bj hk';subst hk';simp only[RV]at hx;obtain⟨a,cap,hv,hcap,ho,hcells⟩:=(Bm hs).1 hx;refine⟨hs,ho,.inl ⟨_,hu⟩,key hs ho a cap hv (hcells.imp id ?_)⟩;rintro⟨b,off,ha,hcell⟩;exact⟨b,off,ha,fun k d hd=>let⟨u,hu,h1⟩:=hcell k d hd;⟨u,hr.mem _ _ _ hu,h1⟩⟩
  .rename_i e id n sz hk;split at h
   .rename_i q' hq;simp only[Qj,Qo]at h;obtain⟨hn,rfl⟩:=h;have hn:=Qi hn;rw[hk]at hk';have hk':=Bj hk';subst hk';simp only[RV]at hx;obtain⟨_,blk,hb,hp⟩:=hx;rw[hq]at hb;cases hb;obtain⟨g1,g2,g3⟩:=hp;obtain⟨k1,k2,k3⟩:=hr.blk id _ hq;refine⟨k1,k2,.inl ⟨_,hu⟩,?_⟩;rcases g3 hn with⟨g4,a,rfl⟩|⟨b,N,cap,g4,rfl,_⟩
    .exact key k1 k2 a 0 (by rw[<-hn,g4]) (.inl om)
    .refine key k1 k2 _ cap (by rw[<-hn]) ?_;rcases k3 with⟨k3,_⟩|⟨b',N',vs,T,k4,k5,k6,k7⟩
     .exact .inl k3
     .rw[g4]at k4;cases k4;exact .inr ⟨b,0,rfl,fun k d hd=>let⟨u,hu,h1⟩:=k7 k d hd;⟨u,by rw[RZ,BG k5];exact hu,h1⟩⟩
   .cases h
  .rename_i l hk;cases h;rw[hk]at hk';have hk':=Cf hk';subst hk';simp only[RV,RD]at hx;subst hx;have hsz:(⟨l.toArray⟩:ByteArray).size=l.length:=by simp[ByteArray.size]
   refine⟨rfl,trivial,.inr hu,JL l,fun w'=>by simp[Builtin.lenOf,hsz,AI],fun w' _=> ?_,by simp[JL,slc],fun k d hd=> ?_⟩
   .simp only[Builtin.firstCells,AI,Qu]
    congr 1
    apply Array.ext';simp[JL,ByteArray.data_extract]
   .simp only[slc,RX,RS]at hd;obtain⟨q,hq,rfl⟩:=hd;exact⟨.int .u8 q.toNat,by simp[JL,hq],rfl,by simp[RD]⟩
  .cases h
def Ou:D->D->Option D
 | .by a,.by b=>some (.by (a++b))
 | .is a,.is b=>some (.is (a++b))
 | .sl sz a,.sl _ b=>some (.sl sz (a++b))
 |_,_=>none
theorem Nt{p r:D}(h:Ou p q=some r)(hs:AU p=AU q)(hp:AX p)(hq:AX q):Af p=true/\Af r=true/\AX r/\AU r=AU p/\AI r=AI p+AI q/\slc r=slc p++slc q:=by
 unfold Ou at h
 split at h<;>first
  |(cases h;simp[Af,AX,AU,AI,slc];done)
  |skip
 .rename_i sz a sz' b;cases h;simp only[AU]at hs;subst hs;refine⟨rfl,rfl,?_,rfl,by simp[AI],by simp[slc]⟩;simp only[AX]at hp hq|-;intro e he;rcases TI.1 he with he|he
  .exact hp e he
  .exact hq e he
 .cases h
def FB(E:Nat->Option AK)(H:RE)(t u:Nat)(x:AV):Option (Bool×D):=
 match E t with
 |none=>none
 |some y=>match y.k with
  | .sl e=>match E e with
   |none=>none
   |some z=>match OI E H u x with
    |some (c,q)=>some (c&&Nat.beq z.size (AU q)&&decide (AI q<=9223372036854775807)&&decide (AI q*z.bytes<=140737488355328),q)
    |none=>none
  |_=>none
variable {t ty:Nat}
theorem FO(hE:Ai P E)(hr:AD G w)(h:FB E G.H t u x=some (c,q))(hc:c=true)(hx:RV G x v)(a:Option Addr):
  Af q=true/\AX q/\((AI q=0/\(Builtin.append_ #[t,u] ty #[.slice a 0 0,v]).run P w= .ok (.slice a 0 0) w)\/
   ∃cap e,∃cur:R2,0<AI q/\AI q<=cap/\cap<=maxLen/\cur.size=cap*AU q/\(Builtin.append_ #[t,u] ty #[.slice a 0 0,v]).run P w= .ok (.slice (some ⟨w.heap.size,0,none⟩) (AI q) cap) (w.drew.alloc (.cells cur e))/\
    ∀(k:Nat)(d:D),(slc q)[k]? =some d->∃v,cur[k]? =some v/\v.oneCell'=true/\RD G.m d v):=by
 subst hc;unfold FB at h;split at h
 .cases h
 .rename_i y hy';have hy:=hE t y hy';obtain⟨d,hd,hk',hut⟩:=A8 hy w;split at h
  .rename_i e hk;rw[hk]at hk';have hk':=Bj hk';subst hk';split at h
   .cases h
   .rename_i z hz';have hz:=hE e z hz';split at h
    .rename_i c q' hsrc;simp only[Qj,Qo,Qk,Qv]at h;obtain⟨⟨⟨⟨hc,h1⟩,h2⟩,h3⟩,rfl⟩:=h;have h1:=Qi h1;obtain⟨hs,ho,hu,news,g1,g2,g3,g4⟩:=Kx hE hr hsrc hc hx;refine⟨hs,ho,?_⟩;have hlen:=CI hs ho
     by_cases h0:AI q'=0
     .refine .inl ⟨h0,?_⟩;have hn:news=[]:=SL (by rw[g3,hlen,h0];simp);rcases run_append_nothing (w:=w) (ty:=ty) (base:=a) (sLen:=0) (sCap:=0) hut hz hu (fun w'=>by rw[g1 w',h0]) (by rw[h1];have:=g2 w rfl;rw[h0,hn]at this;exact this)with h|h
      .exact h
      .omega
     .refine .inr ?_
      obtain⟨zs,hzs,hrun⟩:=DI (w:=w) (ty:=ty) (base:=a) (sLen:=0) (sCap:=0) (n:=AI q') (news:=news) (olds:=[]) hut hz hu g1
       (fun w' hw'=>by rw[h1];exact g2 w' hw') (fun w' _=>by cases a<;>simp[Builtin.firstCells,loadCells,loadCellsFrom]) om om (by rw[RZ];exact h3)
      have hzl:=E4 hz;rw[RZ]at hrun hzs;have hge:=grownCap_ge w (AI q') 0 e;refine⟨grownCap w (AI q') 0 e,e,_,om,hge,grownCap_le_maxLen w _ _ _ (by simp[maxLen];omega),?_,hrun,?_⟩
      .simp[hzs,hzl,g3,hlen,h1,<-SA]
       congr 1
       omega
      .intro k d hd;obtain⟨v,hv,hr⟩:=g4 k d hd;refine⟨v,?_,hr⟩;have hk:=(Qh.1 hv).1;rw[Array.getElem?_append_left (by simpa using hk),Array.getElem?_append_right sm];simpa using hv
    .cases h
  .cases h
variable {b:Value}
theorem L8(hE:Ai P E)(hr:AD G w)(h:FB E G.H t u x=some (c,q))(hc:c=true)(hb:RV G .e0 b)(hx:RV G x v):
  Yields P G w (Builtin.append_ #[t,u] ty #[b,v]) (.d q):=by
 simp only[RV]at hb;obtain⟨a,rfl⟩:=hb;obtain⟨hs,ho,hrun⟩:=FO (ty:=ty) hE hr h hc hx a;rcases hrun with⟨h0,hrun⟩|⟨cap,e,cur,h1,h2,h3,h4,hrun,hcell⟩
 .refine Yields.still hr hrun ?_;simp only[RV];exact(Bm hs).2 ⟨a,0,by rw[h0],om,ho,.inl h0⟩
 .obtain⟨hr1,hf1⟩:=Fj hr (w.drawn+1);obtain⟨hr2,hf2⟩:=Hw hr1 cur e (0,0) cur.toList (fun k v hv=>by simpa using hv);refine⟨_,_,G.lay w.heap.size cur.toList,hrun,?_,rfl,hr2,hf1.trans hf2⟩;simp only[RV];refine(Bm hs).2 ⟨_,cap,rfl,h2,ho,.inr ⟨w.heap.size,0,rfl,fun k d hd=> ?_⟩⟩;obtain⟨v,hv,h1,hr⟩:=hcell k d hd;refine⟨v,?_,h1,hr.mono ((hf1.trans hf2).gle.mem)⟩;show(if w.heap.size=w.heap.size then cur.toList[0+k]? else _)=_;rw[Rf rfl,RZ];simpa using hv
theorem MF(hE:Ai P E)(hr:AD G w)(h:FB E G.H t u x=some (c,q))(hc:c=true)(hb:RV G .e0 b)(hx:RV G x v):
  CJ P G w (Builtin.append_ #[t,u] ty #[b,v]) (.sl G.H.length (AI q) (AU q)) (G.H++[.a q]):=by
 simp only[RV]at hb;obtain⟨a,rfl⟩:=hb;obtain⟨hs,ho,hrun⟩:=FO (ty:=ty) hE hr h hc hx a;rcases hrun with⟨h0,hrun⟩|⟨cap,e,cur,h1,h2,h3,h4,hrun,hcell⟩
 ·
  let G':Gh:={ρ:=fun id=>if id=G.H.length then none else G.ρ id,H:=G.H++[.a q],m:=G.m}
  have hold:∀{id:Nat}{p:A2},G'.H[id]? =some p->(id<G.H.length/\G.H[id]? =some p/\G'.ρ id=G.ρ id)\/(id=G.H.length/\p= .a q/\G'.ρ id=none):=by
   intro id p hp;have hp:(G.H++[.a q])[id]? =some p:=hp;rcases Nat.lt_trichotomy id G.H.length with hlt|heq|hgt
   .rw[Qq hlt]at hp;exact .inl ⟨hlt,hp,by simp[G',Nat.ne_of_lt hlt]⟩
   .subst heq;simp at hp;exact .inr ⟨rfl,hp.symm,by simp[G']⟩
   .rw[Qx om,Rn (by simp;omega)]at hp;cases hp
  have hgl:DN G G':=⟨fun id p hp=>by
   have hlt:=(Qh.1 hp).1;have hρ:G'.ρ id=G.ρ id:=by simp[G',Nat.ne_of_lt hlt]
   exact⟨p,by show(G.H++[.a q])[id]? =some p;rw[Qq hlt];exact hp,by cases p<;>simp[A6,hρ]⟩,Mem.le_refl _⟩
  have hS:∀(j:Nat)(rs:List (Option (Nat×Nat×A5))),G'.H[j]? =some (.many rs)->G.H[j]? =some (.many rs):=by
   intro j rs hp;rcases hold hp with⟨_,h2,_⟩|⟨_,e,_⟩
   .exact h2
   .cases e
  have hP:∀b,B8 G' b->B8 G b:=by
   rintro b ⟨id,N,p,hp,hl,hρ⟩;rcases hold hp with⟨_,h2,h3⟩|⟨_,_,h3⟩
   .exact⟨id,N,p,h2,hl,by rw[<-h3];exact hρ⟩
   .rw[h3]at hρ;cases hρ
  have hown:=Dr hS hP;refine⟨_,w,G',hrun,?_,rfl,⟨?_,?_,hr.mem,fun b hb k=>hr.sep b (hown b hb) k,hr.st,hr.mny.of (fun b hb=>Ad hr (.inr hb)) hS (fun c hc=> .inl (hP c hc))⟩,⟨rfl,rfl,rfl,Qn _,fun b _ hno=>⟨rfl,fun h=>hno (hown b h)⟩,fun _ _ _ hv=> .inl hv,hgl⟩⟩
  .simp only[RV];refine⟨rfl,.a q,by show(G.H++[.a q])[G.H.length]? =_;simp,rfl,Qn _,fun _=> .inl ⟨h0,a,rfl⟩⟩
  .intro id p hp;rcases hold hp with⟨_,h2,h3⟩|⟨h1,h2,h3⟩
   .exact(hr.blk id p h2).Gz hgl (fun _ _ _ _=>rfl) h3
   .subst h2;exact⟨hs,ho,.inl ⟨h0,h3⟩⟩
  .intro id id' p p' b N N' hp hp' lp lp' r1 r2;rcases hold hp with⟨_,h2,h3⟩|⟨_,_,h3⟩
   .rcases hold hp' with⟨_,k2,k3⟩|⟨_,_,k3⟩
    .rw[h3]at r1;rw[k3]at r2;exact hr.inj id id' p p' b N N' h2 k2 lp lp' r1 r2
    .rw[k3]at r2;cases r2
   .rw[h3]at r1;cases r1
 .obtain⟨hr1,hf1⟩:=Fj hr (w.drawn+1);have hgl:=E5 G w.heap.size cur.size (.a q)
  obtain⟨hr2,hf2⟩:=Gi hr1 cur e (.a q) (by
   refine⟨hs,ho,.inr ⟨w.heap.size,cur.size,cur,e,by simp[Gh.own],heap_alloc_new _ _,rfl,fun k d hd=> ?_⟩⟩;obtain⟨v,hv,h1,hr⟩:=hcell k d hd
   exact⟨v,hv,h1,hr⟩)
  refine⟨_,_,_,hrun,?_,rfl,hr2,hf1.trans hf2⟩;simp only[RV];exact⟨rfl,.a q,by simp[Gh.own],rfl,Qn _,fun _=> .inr ⟨w.heap.size,cur.size,cap,by simp[Gh.own],rfl,h2,h3,h4⟩⟩
theorem N8(h:AD G w){o q:A2}(ho:G.H[id]? =some o)(hl:o.live=true)(hl':q.live=true)(hs:A6 G (G.put id q) id o q)(hB:BR (G.put id q) w id q):
  AD (G.put id q) w/\BE G w (G.put id q) w:=by
 have hid:id<G.H.length:=(Qh.1 ho).1
 have hget:∀{j:Nat}{p:A2},(G.put id q).H[j]? =some p->(j=id/\p=q)\/(j≠id/\G.H[j]? =some p):=by
  intro j p hp;have hp:(G.H.set id q)[j]? =some p:=hp
  by_cases e:j=id
  .subst e;rw[Qs hid]at hp;cases hp;exact .inl ⟨rfl,rfl⟩
  .rw[RG (Ne.symm e)]at hp;exact .inr ⟨e,hp⟩
 have hS:∀(j:Nat)(rs:List (Option (Nat×Nat×A5))),(G.put id q).H[j]? =some (.many rs)->G.H[j]? =some (.many rs):=by
  intro j rs hp;rcases hget hp with⟨_,e⟩|⟨_,hp⟩
  .rw[<-e]at hl';simp[A2.live]at hl'
  .exact hp
 have hP:∀c,B8 (G.put id q) c->B8 G c:=by
  rintro c ⟨j,M,p,hp,lp,hr⟩;rcases hget hp with⟨rfl,rfl⟩|⟨e,hp⟩
  .exact⟨j,M,o,ho,hl,hr⟩
  .exact⟨j,M,p,hp,lp,hr⟩
 have hown:=Dr hS hP;have hgl:=Fw ho hs;refine⟨⟨?_,?_,h.mem,fun c hc k=>h.sep c (hown c hc) k,h.st,h.mny.of (fun b hb=>Ad h (.inr hb)) hS (fun c hc=> .inl (hP c hc))⟩,⟨rfl,rfl,rfl,Qn _,fun c _ hno=>⟨rfl,fun h1=>hno (hown c h1)⟩,fun _ _ _ hv=> .inl hv,hgl⟩⟩
 .intro j p hp;rcases hget hp with⟨rfl,rfl⟩|⟨e,hp⟩
  .exact hB
  .exact(h.blk j p hp).Gz hgl (fun _ _ _ _=>rfl) rfl
 .intro j j' p p' c M M' hp hp' lp lp' r1 r2;rcases hget hp with⟨e1,e2⟩|⟨e,hp2⟩<;>rcases hget hp' with⟨e3,e4⟩|⟨e',hp2'⟩
  .exact e1.trans e3.symm
  .subst e1;subst e2;exact h.inj _ _ o p' c M M' ho hp2' hl lp' r1 r2
  .subst e3;subst e4;exact h.inj _ _ p o c M M' hp2 ho lp hl r1 r2
  .exact h.inj _ _ p p' c M M' hp2 hp2' lp lp' r1 r2
def JP(E:Nat->Option AK)(H:RE)(t u id n:Nat)(x:AV):Option (Bool×D):=
 match E t with
 |none=>none
 |some y=>match y.k with
  | .sl e=>match E e with
   |none=>none
   |some z=>match H[id]? with
    |some (.a p)=>match OI E H u x with
     |some (c,q)=>match Ou p q with
      |some r=>some (c&&Nat.beq n (AI p)&&Nat.beq z.size (AU p)&&Nat.beq (AU p) (AU q)&& !(Nat.beq (AU p) 0)&&decide (AI p+AI q<=9223372036854775807)&&decide ((AI p+AI q)*z.bytes<=140737488355328),r)
      |none=>none
     |none=>none
    |_=>none
  |_=>none
theorem Ns(hE:Ai P E)(hr:AD G w){n sz:Nat}{r:D}(h:JP E G.H t u id n x=some (c,r))(hc:c=true)(hb:RV G (.sl id n sz) b)(hx:RV G x v):
  CJ P G w (Builtin.append_ #[t,u] ty #[b,v]) (.sl id (AI r) sz) (G.H.set id (.a r)):=by
 subst hc;unfold JP at h;split at h
 .cases h
 .rename_i y hy';have hy:=hE t y hy';obtain⟨d,hd,hk',hut⟩:=A8 hy w;split at h
  .rename_i e hk;rw[hk]at hk';have hk':=Bj hk';subst hk';split at h
   .cases h
   .rename_i z hz';have hz:=hE e z hz';split at h
    .rename_i p hp;split at h
     .rename_i c q hsrc;split at h
      .rename_i r' happ;simp only[Qj,Qo,Qk,Qv]at h;obtain⟨⟨⟨⟨⟨⟨⟨hc,e1⟩,e2⟩,e3⟩,e4⟩,e5⟩,e6⟩,rfl⟩:=h;have e1:=Qi e1;have e2:=Qi e2;have e3:=Qi e3;have e4:AU p≠0:=fun e=>by rw[e]at e4;exact absurd e4 (by decide)
       obtain⟨qs,qo,hu,news,g1,g2,g3,g4⟩:=Kx hE hr hsrc hc hx;obtain⟨ps,po,hP⟩:=hr.blk id _ hp;obtain⟨_,rs,ro,rsz,rln,rc⟩:=Nt happ e3 po qo;have hlq:=CI qs qo;have hlp:=CI ps po
       have hone:∀v∈news,v.oneCell'=true:=fun v hv=>by
        obtain⟨k,hk,rfl⟩:=List.mem_iff_getElem.1 hv;obtain⟨v,hv',h1,_⟩:=g4 k (slc q)[k] (Qm om);rw[Qm hk]at hv';cases hv';exact h1
       simp only[RV]at hb;obtain⟨_,blk,hb',hB⟩:=hb;rw[hp]at hb';cases hb';obtain⟨f1,f2,f3⟩:=hB
       have grow:∀(base:Option Addr)(sCap:Nat)(olds:Qf),b= .slice base n sCap->n<=sCap->sCap<n+AI q->
         (∀w':World,w'.heap=w.heap->(Builtin.firstCells z.size n (.slice base n sCap)).run P w'= .ok olds.toArray w')->olds.length=(slc p).length->
         (∀(k:Nat)(d:D),(slc p)[k]? =some d->∃v,olds[k]? =some v/\v.oneCell'=true/\RD G.m d v)->
         CJ P G w (Builtin.append_ #[t,u] ty #[b,v]) (.sl id (AI r') sz) (G.H.set id (.a r')):=by
        intro base sCap olds hb hle hlt hfo hol holds;subst hb
        obtain⟨zs,hzs,hrun⟩:=DI (w:=w) (ty:=ty) (base:=base) (sLen:=n) (sCap:=sCap) (n:=AI q) (news:=news) (olds:=olds) hut hz hu g1
         (fun w' hw'=>by rw[e2,e3];exact g2 w' hw') hfo hlt om (by rw[e1];exact e6)
        have hzl:=E4 hz;have hge:=grownCap_ge w (n+AI q) sCap e;obtain⟨hr1,hf1⟩:=Fj hr (w.drawn+1);have hpos:0<AI q:=om
        obtain⟨hr2,hf2⟩:=O8 hr1 hp (q:=.a r') rfl (olds.toArray++news.toArray++zs) e (by simp[A6,rsz,rln];omega) (fun hgl=>by
         refine⟨rs,ro,.inr ⟨w.heap.size,_,_,e,by simp[Gh.move],heap_alloc_new _ _,rfl,fun k d hd=> ?_⟩⟩;rw[rc]at hd;rcases RJ k (slc p).length with hk|hk
         .rw[Qq hk]at hd;obtain⟨v,hv,h1,hr⟩:=holds k d hd;refine⟨v,?_,h1,hr⟩;rw[Array.append_assoc,Array.getElem?_append_left (by simp;omega)];simpa using hv
         .rw[Qx hk]at hd;obtain⟨v,hv,h1,hr⟩:=g4 _ d hd;have hk2:=(Qh.1 hv).1;refine⟨v,?_,h1,hr⟩;rw[Array.append_assoc,Array.getElem?_append_right (by simp;omega),Array.getElem?_append_left (by simp;omega)]
          simpa[hol]using hv)
        refine⟨_,_,_,hrun,?_,rfl,hr2,hf1.trans hf2⟩;simp only[RV];have hid:id<G.H.length:=(Qh.1 hp).1;refine⟨rfl,.a r',by show(G.H.set id (.a r'))[id]? =_;rw[Qs hid],by rw[rsz];exact f1,Qn _,fun _=> .inr ⟨w.heap.size,(olds.toArray++news.toArray++zs).size,grownCap w (n+AI q) sCap e,by simp[Gh.move],?_,?_,?_,?_⟩⟩
        .rw[rln,e1]
        .rw[rln];omega
        .exact grownCap_le_maxLen w _ _ _ (by simp[maxLen];omega)
        .simp[hzs,hzl,g3,hol,hlq,hlp,<-f1,e2,e3,<-SA]
         congr 1
         omega
       rcases f3 e1 with⟨f4,a,rfl⟩|⟨g,N,cap,f4,rfl,f6,f7,f8⟩
       .by_cases h0:AI q=0
        .rcases run_append_nothing (w:=w) (ty:=ty) (base:=a) (sLen:=0) (sCap:=0) hut hz hu (fun w'=>by rw[g1 w',h0]) (by rw[e2,e3];have:=g2 w rfl;rw[h0,SL (show news.length=0 by rw[g3,hlq,h0];simp)]at this;exact this)with hrun|hbad
         .obtain⟨hr2,hf2⟩:=N8 hr hp rfl (q:=.a r') rfl (by simp[A6,rsz,rln,Gh.put]) (by
           have hP':=hP;refine⟨rs,ro,hP'.imp (fun h=>⟨by rw[rln];omega,h.2⟩) ?_⟩;rintro⟨b',N',vs,T,k1,k2,k3,k4⟩;refine⟨b',N',vs,T,k1,k2,k3,fun k d hd=> ?_⟩;rw[rc,SL (show(slc q).length=0 by rw[hlq,h0];simp),List.append_nil]at hd
           exact k4 k d hd)
          have hid:id<G.H.length:=(Qh.1 hp).1;refine⟨_,w,G.put id (.a r'),hrun,?_,rfl,hr2,hf2⟩;simp only[RV];exact⟨rfl,.a r',by show(G.H.set id (.a r'))[id]? =_;rw[Qs hid],by rw[rsz];exact f1,Qn _,fun _=> .inl ⟨by rw[rln];omega,a,rfl⟩⟩
         .omega
        .exact grow a 0 [] (by rw[f4]) om om (fun w' _=>by rw[f4];cases a<;>simp[Builtin.firstCells,loadCells,loadCellsFrom]) (by rw[hlp,<-e1,f4];simp) (fun k d hd=>by
          have:(slc p).length=0:=by rw[hlp,<-e1,f4];simp
          rw[SL this]at hd;simp at hd)
       .rcases hP with⟨h0,hnone⟩|⟨g',N',vs,T,k1,k2,k3,k4⟩
        .rw[f4]at hnone;cases hnone
        .rw[f4]at k1;cases k1;rcases RJ cap (n+AI q)with hlt|hge
         .obtain⟨us,u1,u2,u3⟩:=Ew (R:=fun d v=>v.oneCell'=true/\RD G.m d v) (vs:=vs) 0 (slc p) (fun k d hd=>by rw[RZ];exact k4 k d hd);refine grow _ cap us rfl f6 hlt (fun w' hw'=> ?_) u1 u3;refine run_firstCells_some w' z.size n ⟨g,0,none⟩ _ _ us (by rw[u1,hlp,e2,<-e1]) (fun j u hj=> ?_);rw[addr_add,World.cell?_of_block (w:=w) (by rw[hw']),BG k2];exact u2 j u hj
         .have hsize:(n+AI q)*AU p<=vs.size:=by
           rw[k3,f8,f1];exact Nat.mul_le_mul_right _ hge
          have hfitc:0+n*z.size+news.length<=vs.size:=by
           rw[g3,hlq,e2,<-e3,RZ,<-SA];exact hsize
          have hrun:=EB (ty:=ty) hut hz hu g1 (by rw[e2,e3];exact g2 w rfl) k2 hone hfitc hge;have hoff:0+n*z.size=(slc p).length:=by rw[hlp,e2,e1];omega
          obtain⟨hr2,hf2⟩:=FI hr (cur:=(vs.toList.take (0+n*z.size)++news++vs.toList.drop (0+n*z.size+news.length)).toArray) hp rfl (q:=.a r') rfl f4 (by simp[A6,rsz,rln,Gh.put]) (by
           refine⟨rs,ro,.inr ⟨g,N,_,T,f4,setRow_heap w g vs _ T _ k2,?_,fun k d hd=> ?_⟩⟩
           .simp;omega
           .rw[rc]at hd;rcases RJ k (slc p).length with hk|hk
            .rw[Qq hk]at hd;obtain⟨v,hv,h1,hr⟩:=k4 k d hd;refine⟨v,?_,h1,hr⟩;rw[List.getElem?_toArray,Rl,Qq (by simp;omega),SB,Rf om];simpa using hv
            .rw[Qx hk]at hd;obtain⟨v,hv,h1,hr⟩:=g4 _ d hd;have hk2:=(Qh.1 hv).1;refine⟨v,?_,h1,hr⟩;have ht:(vs.toList.take (0+n*z.size)).length=(slc p).length:=by simp;omega
             rw[List.getElem?_toArray,Rl,Qx om,ht,Qq om]
             exact hv)
          have hid:id<G.H.length:=(Qh.1 hp).1;refine⟨_,_,G.put id (.a r'),hrun,?_,rfl,hr2,hf2⟩;simp only[RV];exact⟨rfl,.a r',by show(G.H.set id (.a r'))[id]? =_;rw[Qs hid],by rw[rsz];exact f1,Qn _,fun _=> .inr ⟨g,N,cap,f4,by rw[rln,e1],by rw[rln];omega,f7,f8⟩⟩
      .cases h
     .cases h
    .cases h
  .cases h
end Go.Gar
namespace Go.Gar
def EG(k:K)(sz n:Nat)(zs:R6):D:=
 match k,zs with
 | .int .i64,[.i .i64 0]=> .is (List.replicate n 0)
 | .int .u8,[.i .u8 0]=> .by (List.replicate n 0)
 |_,_=> .sl sz (List.replicate n zs)
def FM:Qf->Option (R6)
 |[]=>some []
 |v::r=>match v,FM r with
  | .int k n,some l=>some (.i k n::l)
  | .bool b,some l=>some (.b b::l)
  | .string ⟨⟨s⟩⟩,some l=>some (.s s::l)
  | .slice none 0 0,some l=>some (.sl 1 []::l)
  |_,_=>none
def D.one:D->Bool
 | .agg _| .tup _=>false
 |_=>true
def AJ:R6->Bool
 |[]=>true
 |d::r=>d.one&&AJ r
theorem JD{m:Mem}{d:D}{v:Value}(h:d.one=true)(hd:RD m d v):v.oneCell'=true:=by
 cases d<;>simp only[D.one,reduceCtorEq]at h<;>simp only[RD]at hd
 all_goals first
  |(subst hd;rfl)
  |exact hd.1▸hd.2
  |(obtain⟨a,cap,rfl,_⟩:=hd;rfl)
theorem Ib(off:Nat):∀(l:Qf)(j:Nat)(cs:R2),off+j+l.length<=cs.size->
  ((l.zipIdx j).foldl (fun cs (p:Value×Nat)=>cs.setIfInBounds (off+p.2) p.1) cs).size=cs.size/\
  ∀k,((l.zipIdx j).foldl (fun cs (p:Value×Nat)=>cs.setIfInBounds (off+p.2) p.1) cs)[k]? =if off+j<=k/\k<off+j+l.length then l[k-(off+j)]? else cs[k]?
 |[],j,cs,_=>by
  refine⟨sm,fun k=> ?_⟩;simp only[List.zipIdx_nil,List.foldl_nil,RY];rw[Rw om]
 |v::l,j,cs,h=>by
  simp only[Qz]at h;obtain⟨h1,h2⟩:=Ib off l (j+1) (cs.setIfInBounds (off+j) v) (by simp;omega);simp only[List.zipIdx_cons,List.foldl_cons];refine⟨by rw[h1];simp,fun k=> ?_⟩;rw[h2 k]
  by_cases hk:off+(j+1)<=k/\k<off+(j+1)+l.length
  .rw[Rf hk,Rf ⟨om,by simp;omega⟩];rw[show k-(off+j)=(k-(off+(j+1)))+1 by omega];simp
  .rw[Rw hk]
   by_cases hk2:k=off+j
   .subst hk2;rw[Rf ⟨om,sm⟩];rw[RP om];simp
   .rw[Rw (by simp;omega),RU om]
theorem LN{G:Gh}{cells:R2}{acc xs:R8}{off:Nat}{v:Value}(ha:AH G acc cells.toList)(hv:AH G xs v.cells.toList)(hfit:off+xs.length<=acc.length):
  AH G (acc.take off++xs++acc.drop (off+xs.length)) (v.cells.zipIdx.foldl (fun cs (p:Value×Nat)=>cs.setIfInBounds (off+p.2) p.1) cells).toList:=by
 have hl:=AH.EJ ha;have hlv:=AH.EJ hv
 have e:(v.cells.zipIdx.foldl (fun cs (p:Value×Nat)=>cs.setIfInBounds (off+p.2) p.1) cells)=(v.cells.toList.zipIdx 0).foldl (fun cs (p:Value×Nat)=>cs.setIfInBounds (off+p.2) p.1) cells:=by
  rw[<-Array.foldl_toList];simp
 obtain⟨h1,h2⟩:=Ib off v.cells.toList 0 cells (by simp at hl|-;simp at hlv;omega);rw[e,B2];refine⟨by simp only[SX];rw[h1];simp at hl|-;omega,fun k x hx=> ?_⟩;have key:=DZ (R:=RV G) (vs:=cells.toList) (us:=v.cells.toList) hfit om hlv (B2.1 ha).2 (B2.1 hv).2 k x hx;obtain⟨u,hu,hr⟩:=key;refine⟨u,?_,hr⟩;rw[<-hu,Array.getElem?_toList,h2 k];have t2:(cells.toList.take off).length=off:=by simp;simp at hl;omega
 by_cases hk:off+0<=k/\k<off+0+v.cells.toList.length
 .rw[Rf hk,Rl,Qx om,t2,Qq om];rfl
 .rw[Rw hk];rcases RJ k off with h3|h3
  .rw[Rl,Qq om,SB,Rf h3];simp
  .have t3:(cells.toList.take off++v.cells.toList).length=off+v.cells.toList.length:=by rw[RH,t2]
   rw[Qx om,SI,t3];rw[show off+v.cells.toList.length+(k-(off+v.cells.toList.length))=k by omega];simp
def EC(place:Nat->Option (Nat×Nat))(ev:Operand->RA):R8->List (Nat×Operand)->Option (R8)
 |acc,[]=>some acc
 |acc,(i,o)::r=>match place i,ev o with
  |some (off,size),some x=>match F8 x with
   |some xs=>match Nat.beq xs.length size,H6 off xs acc with
    |true,some acc'=>EC place ev acc' r
    |_,_=>none
   |none=>none
  |_,_=>none
def J8(ρ:Operand->Value)(ps:Array (Nat×Operand)):Array (Nat×Value):=ps.map fun p=>(p.1,ρ p.2)
theorem Ed{G:Gh}{place place':Nat->Option (Nat×Nat)}{ev:Operand->RA}{ρ:Operand->Value}(hp:∀i p,place i=some p->place' i=some p)(hev:∀o x,ev o=some x->RV G x (ρ o)):
  ∀(parts:List (Nat×Operand))(acc:R8)(cells:R2)(res:R8),EC place ev acc parts=some res->AH G acc cells.toList->
  ∃cs:R2,Instr.fill place' cells (parts.map fun p=>(p.1,ρ p.2))=some cs/\AH G res cs.toList
 |[],acc,cells,res,h,ha=>by
  simp only[EC,Qj]at h;subst h;exact⟨cells,by simp[Instr.fill],ha⟩
 |(i,o)::r,acc,cells,res,h,ha=>by
  simp only[EC]at h;split at h
  .rename_i off size x hpl hx;split at h
   .rename_i xs hxs;split at h
    .rename_i acc' hb hset;have hb:=Qi hb;obtain⟨hfit,rfl⟩:=Ev hset;have hv:=Ci hxs (hev o x hx);have hlv:=AH.EJ hv;have hl:=AH.EJ ha;obtain⟨cs,h1,h2⟩:=Ed hp hev r _ _ res h (LN ha hv hfit);refine⟨cs,?_,h2⟩;simp only[Ru,Instr.fill,hp _ _ hpl];rw[Rw]
     .exact h1
     .simp only[SX]at hlv hl;simp;omega
    .cases h
   .cases h
  .cases h
def Ec(E:Nat->Option AK)(fs:QR)(i:Nat):Option (Nat×Nat):=
 match fs[i]? with
 |some (off,ft)=>match E ft with
  |some z=>some (off,z.size)
  |none=>none
 |none=>none
def KG(E:Nat->Option AK):QR->Bool
 |[]=>true
 |(_,ft)::r=>(E ft).isSome&&KG E r
def Hk(E:Nat->Option AK)(ev:Operand->RA)(t:Nat)(parts:List (Nat×Operand)):RB:=
 match E t with
 |none=>none
 |some y=>match Gu y.zero with
  |none=>none
  |some acc=>match y.k with
   | .st fs=>match EC (Ec E fs) ev acc parts with
    |some cs=>match mkV true cs with
     |some v=>some (KG E fs,v)
     |none=>none
    |none=>none
   | .arr _ e=>match E e with
    |some z=>match EC (fun i=>some (i*z.size,z.size)) ev acc parts with
     |some cs=>match mkV true cs with
      |some v=>some (true,v)
      |none=>none
     |none=>none
    |none=>none
   |_=>none
theorem run_places{P:Program}{E:Nat->Option AK}(hE:Ai P E)(w:World):∀(q:List Field),KG E (q.map fun f=>(f.offset,f.type))=true->
  ∃pl:QR,(q.mapM fun f=>(do pure (f.offset,<-sizeOf f.type):Sem (Nat×Nat))).run P w= .ok pl w/\∀i p,Ec E (q.map fun f=>(f.offset,f.type)) i=some p->pl[i]? =some p
 |[],_=>⟨[],sm,by intro i p h;simp[Ec]at h⟩
 |f::q,h=>by
  simp only[Ru,KG,Qk]at h;obtain⟨pl,h1,h2⟩:=run_places hE w q h.2;obtain⟨z,hz⟩:=Option.isSome_iff_exists.1 h.1;refine⟨(f.offset,z.size)::pl,?_,fun i p hp=> ?_⟩
  .rw[List.mapM_cons];simp only[Qr,AG (hE _ z hz),Ql,Qu,h1]
  .cases i with
   |zero=>simp[Ec,hz]at hp;simp[hp]
   |succ i=>simpa using h2 i p (by simpa[Ec]using hp)
theorem JQ{P:Program}{E:Nat->Option AK}(hE:Ai P E){G:Gh}{w:World}{a:Act}{ev:Operand->RA}(hev:∀o x,ev o=some x->RV G x (a.eval o)){t:Nat}{parts:Array (Nat×Operand)}{y:AV}{c:Bool}(h:Hk E ev t parts.toList=some (c,y))(hc:c=true):
  ∃u,(Instr.build t (J8 a.eval parts)).run P w= .ok u w/\RV G y u:=by
 subst hc;unfold Hk at h;split at h
 .cases h
 .rename_i ty hty;have hy:=hE t ty hty;obtain⟨d,hd,hk',_⟩:=A8 hy w;obtain⟨zv,hzv,hzc⟩:=Be hy w;split at h
  .cases h
  .rename_i acc hacc;have hz0:AH G acc zv.cells.toList:=by rw[hzc];exact Ey hacc
   have hmap:(J8 a.eval parts).toList=parts.toList.map fun p=>(p.1,a.eval p.2):=by simp[J8]
   split at h
   .rename_i fs hfs;rw[hfs]at hk';obtain⟨q,rfl,rfl⟩:=FG hk';split at h
    .rename_i cs hcs;split at h
     .rename_i v hv;simp only[Qj,Qo]at h;obtain⟨hall,rfl⟩:=h;obtain⟨pl,hpl,hpl2⟩:=run_places hE w q.toList hall;obtain⟨r,hr1,hr2⟩:=Ed (place':=(pl.toArray[·]?)) (fun i p hp=>by simpa using hpl2 i p hp) hev _ _ _ _ hcs hz0;obtain⟨u,hu,hru⟩:=Hz hv hr2;simp only[SG]at hu;refine⟨u,?_,hru⟩
      have hpl':(q.mapM fun f=>(do pure (f.offset,<-sizeOf f.type):Sem (Nat×Nat))).run P w= .ok pl.toArray w:=by
       rw[Array.mapM_eq_mapM_toList];simp only[Sem.run_map,hpl,Ql]
      simp only[Instr.build,Qr,hzv,Ql,hd,hpl',hmap,hr1,Qu];rw[hu]
     .cases h
    .cases h
   .rename_i n e hk;rw[hk]at hk';have hk':=DW hk';subst hk';split at h
    .rename_i z hz';split at h
     .rename_i cs hcs;split at h
      .rename_i v hv;cases h;obtain⟨r,hr1,hr2⟩:=Ed (place':=fun i=>some (i*z.size,z.size)) (fun i p hp=>hp) hev _ _ _ _ hcs hz0;obtain⟨u,hu,hru⟩:=Hz hv hr2;simp only[SG]at hu;refine⟨u,?_,hru⟩;simp only[Instr.build,Qr,hzv,Ql,hd,AG (hE _ z hz'),hmap,hr1,Qu];rw[hu]
      .cases h
     .cases h
    .cases h
   .cases h
end Go.Gar
namespace Go
def World.setB(w:World)(b:Nat)(o:Obj):World:={w with heap:=w.heap.setIfInBounds b o}
theorem Ju(w:World)(b c:Nat)(o:Obj)(h:c≠b):(w.setB b o).heap[c]? =w.heap[c]?:=by
 show(w.heap.setIfInBounds b o)[c]? =_;rw[RU (Ne.symm h)]
theorem HU(w:World)(b:Nat)(o:Obj)(h:b<w.heap.size):(w.setB b o).heap[b]? =some o:=by
 show(w.heap.setIfInBounds b o)[b]? =_;rw[RP h]
end Go
namespace Go.Gar
def Ig:R8->Option (QP)
 |[]=>some []
 | .d (.i .i64 n)::r=>match Ig r with
  |some l=>some (n::l)
  |none=>none
 |_=>none
def GJ:R8->Option (Bool×A5)
 |[]=>some (true,[])
 | .d (.i .u8 n)::r=>match GJ r with
  |some (c,l)=>some (decide (0<=n)&&decide (n<256)&&c,UInt8.ofNat n.toNat::l)
  |none=>none
 |_=>none
def F9(sz:Nat):Nat->R8->Option (List (R6))
 |0,[]=>some []
 |0,_::_=>none
 |n+1,cs=>match EE sz cs with
  |some e=>match L6 e,F9 sz n (D9 sz cs)with
   |some ds,some l=>some (ds::l)
   |_,_=>none
  |none=>none
def Jz(k:K)(sz n:Nat)(cs:R8):Option (Bool×D):=
 match k with
 | .int .i64=>match Ig cs with
  |some l=>some (true,.is l)
  |none=>none
 | .int .u8=>match GJ cs with
  |some (c,l)=>some (c,.by l)
  |none=>none
 |_=>match F9 sz n cs with
  |some l=>some (true,.sl sz l)
  |none=>none
variable {cs:R8}
theorem Mp{l:QP}(h:Ig cs=some l):cs=(slc (.is l)).map .d:=by
 induction cs generalizing l with
 |nil=>simp[Ig]at h;subst h;rfl
 |cons x r ih=>
  unfold Ig at h;split at h
  .rename_i heq;cases heq
  .rename_i n r' heq;cases heq;split at h
   .rename_i q hq;cases h;have:=ih hq;simp[slc]at this|-;exact this
   .cases h
  .cases h
variable {c:Bool}
theorem LD{l:A5}(h:GJ cs=some (c,l))(hc:c=true):cs=(slc (.by l)).map .d:=by
 induction cs generalizing l c with
 |nil=>simp[GJ]at h;obtain⟨_,rfl⟩:=h;rfl
 |cons x r ih=>
  unfold GJ at h;split at h
  .rename_i heq;cases heq
  .rename_i n r' heq;cases heq;split at h
   .rename_i c' q hq;simp only[Qj,Qo]at h;obtain⟨h1,rfl⟩:=h;rw[<-h1]at hc;simp only[Qk,Qv]at hc;obtain⟨⟨h0,h2⟩,hc⟩:=hc;have:=ih hq hc;simp[slc]at this|-;exact⟨om,this⟩
   .cases h
  .cases h
theorem HF{sz:Nat}:∀{n:Nat}{cs:R8}{l:List (R6)},F9 sz n cs=some l->cs.length=n*sz->cs=l.flatten.map .d/\l.length=n/\∀e∈l,e.length=sz
 |0,[],l,h,_=>by simp[F9]at h;subst h;simp
 |0,x::cs,l,h,_=>by simp[F9]at h
 |n+1,cs,l,h,hl=>by
  simp only[F9]at h;split at h
  .rename_i e he;split at h
   .rename_i ds r hds hr;cases h;obtain⟨h1,h2⟩:=DJ he;rw[C3]at hr;obtain⟨g1,g2,g3⟩:=HF hr (by rw[List.length_drop,hl,SA];omega);have hd:=KE hds;refine⟨?_,by simp[g2],fun x hx=> ?_⟩
    .rw[Rx,Sl,<-g1,<-hd,h1,List.take_append_drop]
    .rcases Si.1 hx with rfl|hx
     .rw[hd]at h2;simpa using h2
     .exact g3 x hx
   .cases h
  .cases h
variable {n:Nat}{q:D}
theorem Le{k:K}{sz:Nat}(h:Jz k sz n cs=some (c,q))(hc:c=true)(hl:cs.length=n*sz)(hk:(k= .int .i64\/k= .int .u8)->sz=1):
  cs=(slc q).map .d/\Af q=true/\AX q/\AI q=n/\(AU q=sz):=by
 subst hc;unfold Jz at h;split at h
 .split at h
  .rename_i l hi;cases h;have e:=hk (.inl rfl);have h1:=Mp hi;refine⟨h1,rfl,trivial,?_,e.symm⟩;have h2:=congrArg List.length h1;simp[slc]at h2;simp[AI];rw[e]at hl;omega
  .cases h
 .split at h
  .rename_i c' l hi;simp only[Qj,Qo]at h;obtain⟨rfl,rfl⟩:=h;have e:=hk (.inr rfl);have h1:=LD hi rfl;refine⟨h1,rfl,trivial,?_,e.symm⟩;have h2:=congrArg List.length h1;simp[slc]at h2;simp[AI];rw[e]at hl;omega
  .cases h
 .split at h
  .rename_i l hi;cases h;obtain⟨h1,h2,h3⟩:=HF hi hl;exact⟨h1,rfl,h3,h2,rfl⟩
  .cases h
def D6(n:Nat)(zs:R8):R8:=
 match n with
 |0=>[]
 |n+1=>zs++D6 n zs
theorem Da{zs:R8}:∀{n:Nat},(D6 n zs).length=n*zs.length
 |0=>by simp[D6]
 |n+1=>by simp[D6,Da (n:=n),SA];omega
theorem Gv{zs:R8}:∀{n k:Nat}{x:AV},(D6 n zs)[k]? =some x->zs[k%zs.length]? =some x
 |0,k,x,h=>by simp[D6]at h
 |n+1,k,x,h=>by
  simp only[D6]at h;rcases RJ k zs.length with hk|hk
  .rw[Qq hk]at h;rw[Nat.mod_eq_of_lt hk];exact h
  .rw[Qx hk]at h;have:=Gv h;rwa [<-Nat.mod_eq_sub_mod hk]at this
variable {G:Gh}
theorem Mw{zs:R8}{z:R2}(hz:AH G zs z.toList)(n m:Nat)(hm:m=n*z.size):AH G (D6 n zs) (madeCells z m).toList:=by
 have hl:=AH.EJ hz;simp only[SX]at hl;rw[B2];refine⟨by simp[madeCells,Da,hm,hl],fun k x hx=> ?_⟩;have hk:=(Qh.1 hx).1;rw[Da]at hk;obtain⟨v,hv,hr⟩:=(B2.1 hz).2 _ x (Gv hx);refine⟨v,?_,hr⟩;have hlt:k%zs.length<z.size:=(Qh.1 hv).1;have h2:=(Qh.1 hv).2;simp only[Array.getElem_toList]at h2;have hkm:k<m:=by rw[hm,hl];exact hk
 simp only[madeCells,Array.getElem?_toList,Array.getElem?_map,Array.getElem?_range,Rf hkm,Option.map_some];rw[hl]
 congr 1
 rw[getElem!_pos z _ hlt];exact h2
def EV(E:Nat->Option AK)(ev:Operand->RA)(t len:Nat)(parts:List (Nat×Operand)):Option (AK×R8):=
 match E t with
 |none=>none
 |some y=>match y.k with
  | .sl e=>match E e with
   |none=>none
   |some z=>match Gu z.zero with
    |none=>none
    |some zs=>match EC (fun i=>some (i*z.size,z.size)) ev (D6 len zs) parts with
     |some cs=>some (z,cs)
     |none=>none
  |_=>none
variable {P:Program}{E:Nat->Option AK}{w:World}{a:Act}{ev:Operand->RA}{t len:Nat}{parts:Array (Nat×Operand)}
theorem GI(hE:Ai P E)(hev:∀o x,ev o=some x->RV G x (a.eval o)){z:AK}(h:EV E ev t len parts.toList=some (z,cs))(hsz:len*z.size<=16777216):
  ∃e,CF P e=some z/\P.underlying t=some (.slice e)/\∃cur:R2,AH G cs cur.toList/\cs.length=len*z.size/\
   (Instr.buildSlice t len (J8 a.eval parts)).run P w= .ok (.slice (some ⟨w.heap.size,0,none⟩) len len) (w.alloc (.cells cur e)):=by
 unfold EV at h;split at h
 .cases h
 .rename_i y hy';have hy:=hE t y hy';obtain⟨d,hd,hk',hut⟩:=A8 hy w;split at h
  .rename_i e hk;rw[hk]at hk';have hk':=Bj hk';subst hk';split at h
   .cases h
   .rename_i z' hz';have hz:=hE e z' hz';split at h
    .cases h
    .rename_i zs hzs;split at h
     .rename_i cs' hcs;cases h;obtain⟨zv,hzv,hzc⟩:=Be hz w;have hzl:=E4 hz;have hrz:AH G zs zv.cells.toList:=by rw[hzc];exact Ey hzs
      have hzvs:zv.cells.size=z.size:=by rw[<-hzl,<-hzc];simp
      have hzsl:zs.length=z.size:=by have:=AH.EJ hrz;rw[<-hzl,<-hzc];exact this.symm
      have hmade:=Mw hrz len (len*z.size) (by rw[hzvs]);obtain⟨cur,h1,h2⟩:=Ed (place':=fun i=>some (i*z.size,z.size)) (fun i p hp=>hp) hev _ _ _ _ hcs hmade;have hmap:(J8 a.eval parts).toList=parts.toList.map fun p=>(p.1,a.eval p.2):=by simp[J8]
      refine⟨e,hz,hut,cur,h2,?_,?_⟩
      .have g1:=AH.EJ h2;have g2:(D6 len zs).length=len*z.size:=by rw[Da,hzsl]
       have:∀(ps:List (Nat×Operand))(acc res:R8),EC (fun i=>some (i*z.size,z.size)) ev acc ps=some res->res.length=acc.length:=by
        intro ps
        induction ps with
        |nil=>intro acc res h;simp[EC]at h;rw[h]
        |cons p r ih=>
         intro acc res h;obtain⟨i,o⟩:=p;simp only[EC]at h;split at h
         .split at h
          .split at h
           .rename_i _ hset;obtain⟨hf,rfl⟩:=Ev hset;rw[ih _ _ h];simp;omega
           .cases h
          .cases h
         .cases h
       rw[this _ _ _ hcs,g2]
      .have h0:¬(len*z.size>2^24):=om
       simp only[Instr.buildSlice,Qr,hd,Ql,AG hz,Sem.run_ite,Rw h0,hmap]
       by_cases hz0:len*z.size=0
       .have hm0:madeCells zv.cells (len*z.size)=(Array.range (len*z.size)).map fun x=>(#[]:R2)[x%(#[]:R2).size]!:=by
         rw[hz0];simp[madeCells]
        rw[Rf hz0];simp only[Qu,Ql];rw[<-hm0,h1];simp[newRow]
       .rw[Rw hz0];simp only[hzv,Ql,Qu,Qr];have hm1:madeCells zv.cells (len*z.size)=(Array.range (len*z.size)).map fun x=>zv.cells[x%zv.cells.size]!:=rfl
        rw[<-hm1,h1];simp[newRow]
     .cases h
  .cases h
def Cm(E:Nat->Option AK)(ev:Operand->RA)(t len:Nat)(parts:List (Nat×Operand)):Option (Bool×D):=
 match EV E ev t len parts with
 |some (z,cs)=>match Jz z.k z.size len cs with
  |some (c,q)=>some (c&&decide (len*z.size<=16777216)&&decide (len<=9223372036854775807)&&(match z.k with| .int _=>Nat.beq z.size 1|_=>true)&&AJ (slc q),q)
  |none=>none
 |none=>none
theorem GF:∀{l:R6},AJ l=true->∀{k:Nat}{d:D},l[k]? =some d->d.one=true
 |[],_,k,d,h=>by simp at h
 |x::r,ho,k,d,h=>by
  simp only[AJ,Qk]at ho
  cases k with
  |zero=>simp at h;subst h;exact ho.1
  |succ k=>exact GF ho.2 (by simpa using h)
theorem EH(hE:Ai P E)(hev:∀o x,ev o=some x->RV G x (a.eval o))(h:Cm E ev t len parts.toList=some (c,q))(hc:c=true):
  Af q=true/\AX q/\AI q=len/\len<=maxLen/\∃e,∃cur:R2,cur.size=len*AU q/\(Instr.buildSlice t len (J8 a.eval parts)).run P w= .ok (.slice (some ⟨w.heap.size,0,none⟩) len len) (w.alloc (.cells cur e))/\
   ∀(k:Nat)(d:D),(slc q)[k]? =some d->∃v,cur[k]? =some v/\v.oneCell'=true/\RD G.m d v:=by
 subst hc;unfold Cm at h;split at h
 .rename_i z cs hcs;split at h
  .rename_i c' q' hq;simp only[Qj,Qo,Qk,Qv]at h;obtain⟨⟨⟨⟨⟨hc,h1⟩,h2⟩,h3⟩,h4⟩,rfl⟩:=h;obtain⟨e,hz,hut,cur,g1,g2,g3⟩:=GI hE (w:=w) hev hcs h1
   have hk1:(z.k= .int .i64\/z.k= .int .u8)->z.size=1:=by
    rintro(hk|hk)<;>rw[hk]at h3<;>exact Qi h3
   obtain⟨k1,k2,k3,k4,k5⟩:=Le hq hc g2 hk1;have hl:=AH.EJ g1;refine⟨k2,k3,k4,by simp[maxLen];omega,e,cur,by rw[k5,<-g2,<-hl];simp,g3,fun k d hd=> ?_⟩;obtain⟨v,hv,hr⟩:=(B2.1 g1).2 k (.d d) (by rw[k1];simp[hd]);simp only[RV]at hr;exact⟨v,by simpa using hv,JD (GF h4 hd) hr,hr⟩
  .cases h
 .cases h
theorem IT(hE:Ai P E)(hr:AD G w)(hev:∀o x,ev o=some x->RV G x (a.eval o))(h:Cm E ev t len parts.toList=some (c,q))(hc:c=true):Yields P G w (Instr.buildSlice t len (J8 a.eval parts)) (.d q):=by
 obtain⟨hs,ho,hn,_,e,cur,_,hrun,hcell⟩:=EH hE (w:=w) hev h hc;obtain⟨hr2,hf2⟩:=Hw hr cur e (0,0) cur.toList (fun k v hv=>by simpa using hv);refine⟨_,_,G.lay w.heap.size cur.toList,hrun,?_,rfl,hr2,hf2⟩;simp only[RV];refine(Bm hs).2 ⟨_,len,by rw[hn],om,ho,.inr ⟨w.heap.size,0,rfl,fun k d hd=> ?_⟩⟩;obtain⟨v,hv,h1,hr⟩:=hcell k d hd;refine⟨v,?_,h1,hr.mono (hf2.gle.mem)⟩;show(if w.heap.size=w.heap.size then cur.toList[0+k]? else _)=_;rw[Rf rfl,RZ];simpa using hv
theorem JK(hE:Ai P E)(hr:AD G w)(hev:∀o x,ev o=some x->RV G x (a.eval o))(h:Cm E ev t len parts.toList=some (c,q))(hc:c=true):CJ P G w (Instr.buildSlice t len (J8 a.eval parts)) (.sl G.H.length (AI q) (AU q)) (G.H++[.a q]):=by
 obtain⟨hs,ho,hn,hm,e,cur,hcz,hrun,hcell⟩:=EH hE (w:=w) hev h hc
 obtain⟨hr2,hf2⟩:=Gi hr cur e (.a q) (by
  refine⟨hs,ho,.inr ⟨w.heap.size,cur.size,cur,e,by simp[Gh.own],heap_alloc_new _ _,rfl,fun k d hd=> ?_⟩⟩;obtain⟨v,hv,h1,hr⟩:=hcell k d hd
  exact⟨v,hv,h1,hr⟩)
 refine⟨_,_,_,hrun,?_,rfl,hr2,hf2⟩;simp only[RV];exact⟨rfl,.a q,by simp[Gh.own],rfl,Qn _,fun _=> .inr ⟨w.heap.size,cur.size,len,by simp[Gh.own],by rw[hn],om,hm,hcz⟩⟩
theorem LC(hE:Ai P E)(hr:AD G w)(hev:∀o x,ev o=some x->RV G x (a.eval o))(h:Cm E ev t 0 parts.toList=some (c,q))(hc:c=true):Yields P G w (Instr.buildSlice t 0 (J8 a.eval parts)) .e0:=by
 obtain⟨hs,ho,hn,_,e,cur,_,hrun,hcell⟩:=EH hE (w:=w) hev h hc;obtain⟨hr2,hf2⟩:=Hw hr cur e (0,0) [] (fun k v hv=>by simp at hv);exact⟨_,_,G.lay w.heap.size [],hrun,by simp only[RV];exact⟨_,rfl⟩,rfl,hr2,hf2⟩
theorem He(hE:Ai P E)(hr:AD G w)(hev:∀o x,ev o=some x->RV G x (a.eval o)){z:AK}(h:EV E ev t len parts.toList=some (z,cs))(hsz:len*z.size<=16777216):CJ P G w (Instr.buildSlice t len (J8 a.eval parts)) (.bs G.H.length 0 len z.size cs.length) (G.H++[.c cs]):=by
 obtain⟨e,hz,hut,cur,g1,g2,g3⟩:=GI hE (w:=w) hev h hsz;have hgl:=E5 G w.heap.size cur.size (.c cs);have hl:=AH.EJ g1;simp only[SX]at hl
 obtain⟨hr2,hf2⟩:=Gi hr cur e (.c cs) (by
  refine⟨w.heap.size,cur.size,cur,e,by simp[Gh.own],heap_alloc_new _ _,rfl,om,fun k x hx=> ?_⟩;obtain⟨v,hv,hr⟩:=(B2.1 g1).2 k x hx
  exact⟨v,by simpa using hv,hr.mono hgl⟩)
 refine⟨_,_,_,g3,?_,rfl,hr2,hf2⟩;simp only[RV];exact⟨rfl,.c cs,by simp[Gh.own],rfl,om,w.heap.size,cur.size,len,by simp[Gh.own],rfl,om,om⟩
def JV(E:Nat->Option AK)(t:Nat)(l c:AV):Option (Bool×D):=
 match l,c with
 | .d (.i _ n),.d (.i _ m)=>match E t with
  |none=>none
  |some y=>match y.k with
   | .sl e=>match E e with
    |none=>none
    |some z=>match FM z.zero with
     |none=>none
     |some zs=>some (decide (0<=n)&&decide (n<=m)&&decide (m<=9223372036854775807)&&decide ((z.bytes:Int)*m<=281474976710656),EG z.k z.size n.toNat zs)
   |_=>none
 |_,_=>none
theorem HZ{m:Mem}:∀{vs:Qf}{l:R6},FM vs=some l->l.length=vs.length/\∀(k:Nat)(d:D),l[k]? =some d->∃v,vs[k]? =some v/\v.oneCell'=true/\RD m d v
 |[],l,h=>by simp[FM]at h;subst h;simp
 |v::r,l,h=>by
  simp only[FM]at h
  have fin:∀{d:D}{q:R6},FM r=some q->v.oneCell'=true->RD m d v->(d::q).length=(v::r).length/\∀(k:Nat)(d':D),(d::q)[k]? =some d'->∃u,(v::r)[k]? =some u/\u.oneCell'=true/\RD m d' u:=by
   intro d q hq h1 h2;obtain⟨g1,g2⟩:=HZ hq;refine⟨by simp[g1],fun k d' hd=> ?_⟩
   cases k with
   |zero=>simp at hd;subst hd;exact⟨v,sm,h1,h2⟩
   |succ k=>simpa using g2 k d' (by simpa using hd)
  split at h
  .rename_i hq;cases h;exact fin hq rfl (by simp[RD])
  .rename_i hq;cases h;exact fin hq rfl (by simp[RD])
  .rename_i hq;cases h;exact fin hq rfl (by simp[RD])
  .rename_i hq;cases h;exact fin hq rfl (by simp only[RD];exact⟨none,0,rfl,sm,.inl trivial⟩)
  .cases h
theorem Ia{α:Type}{zs:List α}:∀{n k:Nat}{d:α},(List.replicate n zs).flatten[k]? =some d->k<n*zs.length/\zs[k%zs.length]? =some d
 |0,k,d,h=>by simp at h
 |n+1,k,d,h=>by
  simp only[List.replicate_succ,Rx]at h;rcases RJ k zs.length with hk|hk
  .rw[Qq hk]at h;rw[Nat.mod_eq_of_lt hk];exact⟨by rw[SA];omega,h⟩
  .rw[Qx hk]at h;obtain⟨h1,h2⟩:=Ia h;exact⟨by rw[SA];omega,by rwa [<-Nat.mod_eq_sub_mod hk]at h2⟩
theorem NU{k:K}{sz:Nat}{zs:R6}(hl:zs.length=sz):Af (EG k sz n zs)=true/\AX (EG k sz n zs)/\AI (EG k sz n zs)=n/\AU (EG k sz n zs)=sz/\
  ∀(j:Nat)(d:D),(slc (EG k sz n zs))[j]? =some d->j<n*sz/\zs[j%sz]? =some d:=by
 unfold EG;split
 .simp only[Qz,RY,RZ]at hl;subst hl;refine⟨rfl,trivial,by simp[AI],rfl,fun j d hd=> ?_⟩;simp only[slc,List.map_replicate,List.getElem?_replicate]at hd;split at hd
  .cases hd;simp[Nat.mod_one];omega
  .cases hd
 .simp only[Qz,RY,RZ]at hl;subst hl;refine⟨rfl,trivial,by simp[AI],rfl,fun j d hd=> ?_⟩;simp only[slc,List.map_replicate,List.getElem?_replicate]at hd;split at hd
  .cases hd;simp[Nat.mod_one];omega
  .cases hd
 .refine⟨rfl,?_,by simp[AI],rfl,fun j d hd=> ?_⟩
  .intro e he;rw[List.eq_of_mem_replicate he];exact hl
  .have:=Ia hd;rw[hl]at this;exact this
theorem LJ(hE:Ai P E)(hr:AD G w){l c:AV}{cc:Bool}(h:JV E t l c=some (cc,q))(hc:cc=true){vl vc:Value}(hl:RV G l vl)(hcap:RV G c vc):
  CJ P G w (Instr.makeSlice t vl vc) (.sl G.H.length (AI q) (AU q)) (G.H++[.a q]):=by
 subst hc;unfold JV at h;split at h
 .rename_i kn n km m;simp only[RV,RD]at hl hcap;subst hl;subst hcap;split at h
  .cases h
  .rename_i y hy';have hy:=hE t y hy';obtain⟨d,hd,hk',hut⟩:=A8 hy w;split at h
   .rename_i e hk;rw[hk]at hk';have hk':=Bj hk';subst hk';split at h
    .cases h
    .rename_i z hz';have hz:=hE e z hz';split at h
     .cases h
     .rename_i zs hzs;simp only[Qj,Qo,Qk,Qv]at h;obtain⟨⟨⟨⟨h0,h1⟩,h2⟩,h3⟩,rfl⟩:=h;obtain⟨i,d2,z0,i1,i2,i3,i4,i5,i6,i7,i8⟩:=Ak hz;have hrun:=run_make (P:=P) w t e i z0 hut i1 i3 kn km n m h0 h1 (by rw[<-i6];exact h3) h2;obtain⟨g1,g2⟩:=HZ (m:=G.m) hzs;have hzl:=E4 hz;have hz0:z0.cells.size=z.size:=by rw[<-hzl,i8];simp
      obtain⟨k1,k2,k3,k4,k5⟩:=NU (k:=z.k) (n:=n.toNat) (g1.trans hzl)
      obtain⟨hr2,hf2⟩:=Gi hr (madeCells z0.cells (m.toNat*i.size)) e (.a (EG z.k z.size n.toNat zs)) (by
       refine⟨k1,k2,.inr ⟨w.heap.size,_,_,e,by simp[Gh.own],heap_alloc_new _ _,rfl,fun j d hd=> ?_⟩⟩;obtain⟨j1,j2⟩:=k5 j d hd;obtain⟨v,hv,h1c,hr⟩:=g2 _ d j2;refine⟨v,?_,h1c,hr⟩
       have hjm:j<m.toNat*i.size:=by
        rw[<-i5];exact TG j1 (Nat.mul_le_mul_right _ om)
       rw[i8]at hv;have hlt:j%z.size<z0.cells.size:=by simpa using(Qh.1 hv).1
       have h2:=(Qh.1 hv).2;simp only[Array.getElem_toList]at h2;simp only[madeCells,Array.getElem?_map,Array.getElem?_range,Rf hjm,Option.map_some,hz0]
       congr 1
       rw[getElem!_pos z0.cells _ hlt]
       exact h2)
      refine⟨_,_,_,hrun,?_,rfl,hr2,hf2⟩;simp only[RV];refine⟨rfl,.a _,by simp[Gh.own],rfl,Qn _,fun _=> .inr ⟨w.heap.size,_,m.toNat,by simp[Gh.own];rfl,by rw[k3],om,by simp[maxLen];omega,?_⟩⟩;rw[size_madeCells,k4,i5]
   .cases h
 .cases h
theorem Kj(h:AD G w)(obj:Obj)(N0:Nat)(blk:A2)(hB:BR (G.own w.heap.size N0 blk) (w.alloc obj) G.H.length blk)(hnm:∀rs,blk≠ .many rs:=by intro _ e;cases e):
  AD (G.own w.heap.size N0 blk) (w.alloc obj)/\BE G w (G.own w.heap.size N0 blk) (w.alloc obj):=by
 have hg:=E5 G w.heap.size N0 blk
 have hS:∀(id:Nat)(rs:List (Option (Nat×Nat×A5))),(G.own w.heap.size N0 blk).H[id]? =some (.many rs)->G.H[id]? =some (.many rs):=by
  intro id rs hq;rcases CK hq with⟨_,h2,_⟩|⟨_,h2,_⟩
  .exact h2
  .exact absurd h2.symm (hnm rs)
 have hP:∀b,B8 (G.own w.heap.size N0 blk) b->B8 G b\/b=w.heap.size:=by
  rintro b ⟨id,N,q,hq,hl,hρ⟩;rcases CK hq with⟨_,h2,h3⟩|⟨_,_,h3⟩
  .exact .inl ⟨id,N,q,h2,hl,by rw[<-h3];exact hρ⟩
  .rw[h3]at hρ;cases hρ;exact .inr rfl
 have hold:=IA hS hP;refine⟨⟨?_,?_,?_,?_,h.st,h.mny.of (fun b hb=>Ad h (.inr hb)) hS (fun b hb=>(hP b hb).imp_right (fun e=>Nat.le_of_eq e.symm))⟩,⟨rfl,rfl,rfl,sm,?_,fun b k v hv=> .inl hv,hg⟩⟩
 .intro id q hq;rcases CK hq with⟨h1,h2,h3⟩|⟨h1,h2,h3⟩
  .refine(h.blk id q h2).Gz hg (fun b N hl hρ=> ?_) h3 (fun rs e c hc=>TB w _ c (Ad h (.inr ⟨id,rs,by rw[<-e];exact h2,hc⟩)));exact TB w _ b (Ad h (.inl ⟨id,N,q,h2,hl,hρ⟩))
  .subst h1;subst h2;exact hB
 .intro id id' p q b N N' hp hq lp lq r1 r2;rcases CK hp with⟨h1,h2,h3⟩|⟨h1,h2,h3⟩<;>rcases CK hq with⟨k1,k2,k3⟩|⟨k1,k2,k3⟩
  .rw[h3]at r1;rw[k3]at r2;exact h.inj id id' p q b N N' h2 k2 lp lq r1 r2
  .rw[h3]at r1;rw[k3]at r2;cases r2;have:=Ad h (.inl ⟨id,N,p,h2,lp,r1⟩);omega
  .rw[h3]at r1;rw[k3]at r2;cases r1;have:=Ad h (.inl ⟨id',N',q,k2,lq,r2⟩);omega
  .omega
 .intro b k v hv;have hv:G.m b k=some v:=hv;rw[World.cell?_alloc_lt _ _ _ (DY h hv)];exact h.mem b k v hv
 .intro b ho k;show G.m b k=none;rcases hold b ho with h1|rfl
  .exact h.sep b h1 k
  .cases hv:G.m w.heap.size k with
   |none=>rfl
   |some v=>have:=DY h hv;omega
 .intro b hb ho;refine⟨TB w _ b hb,fun h1=> ?_⟩;rcases hold b h1 with h1|rfl
  .exact ho h1
  .omega
variable {b:Nat}
theorem Ko(h:AD G w){id N:Nat}{o q:A2}{obj:Obj}(ho:G.H[id]? =some o)(hl:o.live=true)(hl':q.live=true)(hρ:G.ρ id=some (b,N))(hs:A6 G (G.put id q) id o q)(hB:BR (G.put id q) (w.setB b obj) id q):AD (G.put id q) (w.setB b obj)/\BE G w (G.put id q) (w.setB b obj):=by
 have hid:id<G.H.length:=(Qh.1 ho).1
 have hget:∀{j:Nat}{p:A2},(G.put id q).H[j]? =some p->(j=id/\p=q)\/(j≠id/\G.H[j]? =some p):=by
  intro j p hp;have hp:(G.H.set id q)[j]? =some p:=hp
  by_cases e:j=id
  .subst e;rw[Qs hid]at hp;cases hp;exact .inl ⟨rfl,rfl⟩
  .rw[RG (Ne.symm e)]at hp;exact .inr ⟨e,hp⟩
 have hS:∀(j:Nat)(rs:List (Option (Nat×Nat×A5))),(G.put id q).H[j]? =some (.many rs)->G.H[j]? =some (.many rs):=by
  intro j rs hp;rcases hget hp with⟨_,e⟩|⟨_,hp⟩
  .rw[<-e]at hl';simp[A2.live]at hl'
  .exact hp
 have hP:∀c,B8 (G.put id q) c->B8 G c:=by
  rintro c ⟨j,M,p,hp,lp,hr⟩;rcases hget hp with⟨rfl,rfl⟩|⟨e,hp⟩
  .exact⟨j,M,o,ho,hl,hr⟩
  .exact⟨j,M,p,hp,lp,hr⟩
 have hown:∀c,Own (G.put id q) c↔Own G c:=by
  intro c;refine⟨Dr hS hP c,?_⟩;rintro(⟨j,M,p,hp,lp,hr⟩|⟨j,rs,hp,hc⟩)
  .by_cases e:j=id
   .subst e;exact .inl ⟨j,M,q,by show(G.H.set j q)[j]? =some q;rw[Qs hid],hl',hr⟩
   .exact .inl ⟨j,M,p,by show(G.H.set id q)[j]? =some p;rw[RG (Ne.symm e)];exact hp,lp,hr⟩
  .refine .inr ⟨j,rs,?_,hc⟩
   by_cases e:j=id
   .subst e;rw[ho]at hp;cases hp;simp[A2.live]at hl
   .show(G.H.set id q)[j]? =_;rw[RG (Ne.symm e)];exact hp
 have hgl:DN G (G.put id q):=⟨fun j p hp=>by
  by_cases e:j=id
  .subst e;rw[ho]at hp;cases hp;exact⟨q,by show(G.H.set j q)[j]? =some q;rw[Qs hid],hs⟩
  .exact⟨p,by show(G.H.set id q)[j]? =some p;rw[RG (Ne.symm e)];exact hp,by cases p<;>simp[A6,Gh.put]⟩,Mem.le_refl _⟩
 have hoth:∀c,c≠b->(w.setB b obj).heap[c]? =w.heap[c]?:=fun c hc=>Ju w b c obj hc;refine⟨⟨?_,?_,?_,?_,h.st,h.mny.of (fun b hb=>Ad h (.inr hb)) hS (fun c hc=> .inl (hP c hc))⟩,⟨rfl,rfl,rfl,by simp[World.setB],?_,fun _ _ _ hv=> .inl hv,hgl⟩⟩
 .intro j p hp;rcases hget hp with⟨rfl,rfl⟩|⟨e,hp⟩
  .exact hB
  .refine(h.blk j p hp).Gz hgl (fun c M lp hr=>hoth c ?_) rfl (fun rs e c hc=>hoth c fun e'=>by subst e';subst e;exact((h.mny j rs hp).2 c hc).1 ⟨id,N,o,ho,hl,hρ⟩);intro hcb;subst hcb;exact e (h.inj j id p o c M N hp ho lp hl hr hρ)
 .intro j j' p p' c M M' hp hp' lp lp' r1 r2;rcases hget hp with⟨e1,e2⟩|⟨e,hp2⟩<;>rcases hget hp' with⟨e3,e4⟩|⟨e',hp2'⟩
  .exact e1.trans e3.symm
  .subst e1;subst e2;exact h.inj _ _ o p' c M M' ho hp2' hl lp' r1 r2
  .subst e3;subst e4;exact h.inj _ _ p o c M M' hp2 ho lp hl r1 r2
  .exact h.inj _ _ p p' c M M' hp2 hp2' lp lp' r1 r2
 .intro c k v hv;have hv:G.m c k=some v:=hv
  have hcb:c≠b:=by
   intro e;subst e;rw[h.sep c (.inl ⟨id,N,o,ho,hl,hρ⟩) k]at hv;cases hv
  rw[World.cell?_of_block (w:=w) (hoth c hcb)];exact h.mem c k v hv
 .intro c hc k;exact h.sep c ((hown c).1 hc) k
 .intro c hc hno;refine⟨hoth c ?_,fun h1=>hno ((hown c).1 h1)⟩;intro e;subst e;exact hno (.inl ⟨id,N,o,ho,hl,hρ⟩)
def sameD:D->D->Option Bool
 | .i k a,.i k' b=>if k=k' then some (a==b)else none
 |_,_=>none
def FW(k:D):RL->Option (RA)
 |[]=>some none
 |(k',x)::r=>match sameD k k' with
  |some true=>some (some x)
  |some false=>FW k r
  |none=>none
theorem DU{G:Gh}{k:D}{kv:Value}{kk:IntKind}(hk:RD G.m k kv):∀{es:RL}{ms:List MapEntry}{r:RA}(i:Nat),FW k es=some r->ms.length=es.length->
  (∀(j:Nat)(q:D×AV),es[j]? =some q->∃e:MapEntry,ms[j]? =some e/\RD G.m q.1 e.key/\RV G q.2 e.val)->
  (r=none->Instr.findNow (.int kk) kv ms i=some none)/\(∀x,r=some x->∃j v,Instr.findNow (.int kk) kv ms i=some (some (j,v))/\RV G x v)
 |[],ms,r,i,h,hl,hm=>by
  have:ms=[]:=by simpa using hl
  subst this;simp only[FW,Qj]at h;subst h;exact⟨fun _=>rfl,fun x hx=>(by cases hx)⟩
 |(k',x)::es,ms,r,i,h,hl,hm=>by
  cases ms with
  |nil=>simp at hl
  |cons e ms=>
   obtain⟨e',he',hk',hx'⟩:=hm 0 (k',x) rfl;simp at he';subst he';simp only[FW]at h
   have key:∀b,sameD k k'=some b->Instr.sameNow (.int kk) kv e.key=some b:=by
    intro b hb;unfold sameD at hb;split at hb
    .rename_i k1 a k2 c;simp only[RD]at hk hk';subst hk;rw[hk'];split at hb
     .rename_i hkk;cases hb;simp[Instr.sameNow,hkk]
     .cases hb
    .cases hb
   split at h
   .rename_i hs;cases h;refine⟨fun hh=>(by cases hh),fun y hy=> ?_⟩;cases hy;exact⟨i,e.val,by simp[Instr.findNow,key _ hs],hx'⟩
   .rename_i hs
    have:=DU hk (es:=es) (ms:=ms) (r:=r) (kk:=kk) (i+1) h (by simpa using hl) (fun j q hq=>by
     obtain⟨e2,h2,h3⟩:=hm (j+1) q (by simpa using hq)
     exact⟨e2,by simpa using h2,h3⟩)
    simpa[Instr.findNow,key _ hs]using this
   .cases h
variable {v:Value}
theorem EW{empty:Bool}{t:TypeId}{kk:IntKind}(hu:P.underlying t=some (.int kk)):(Instr.checkKey empty (n+1) t v).run P w= .ok () w:=by
 unfold Instr.checkKey;simp only[underlying,Qr,run_program,Ql,hu,Qu]
theorem Bp{y:AK}(h:CF P t=some y):∃d,P.underlying t=some d/\FV d=y.k:=by
 obtain⟨i,d,z,h1,h2,h3,h4,h5,h6,h7,h8⟩:=Ak h;exact⟨d,h2,h4.symm⟩
def FF:K->Bool
 | .int _=>true
 |_=>false
theorem Jk(hr:AD G w)(t:TypeId):CJ P G w (Instr.makeMap t none) (.mp G.H.length) (G.H++[.m []]):=by
 obtain⟨h1,h2⟩:=Kj hr (.map #[] 0) 0 (.m []) ⟨w.heap.size,0,#[],0,by simp[Gh.own],heap_alloc_new _ _,rfl,fun k q hq=>by simp at hq⟩;refine⟨.map (some w.heap.size),_,_,rfl,?_,rfl,h1,h2⟩;simp only[RV];exact⟨rfl,.m [],by simp[Gh.own],w.heap.size,0,by simp[Gh.own],rfl⟩
def Hp(E:Nat->Option AK)(H:RE)(t:Nat)(x k:AV)(ok:Bool):RB:=
 match x,k with
 | .mp id,.d k=>match H[id]?,E t with
  |some (.m es),some y=>match y.k with
   | .mp kt et=>match E kt,E et with
    |some yk,some ye=>match FW k es with
     |some (some v)=>some (FF yk.k,if ok then .tup [v,.d (.b true)]else v)
     |some none=>some (FF yk.k,if ok then .tup [.u,.d (.b false)]else .u)
     |none=>none
    |_,_=>none
   |_=>none
  |_,_=>none
 |_,_=>none
theorem P1(hE:Ai P E){y:AK}(h:E t=some y)(hk:FF y.k=true):∃kk,P.underlying t=some (.int kk):=by
 obtain⟨d,hu,hd⟩:=Bp (hE t y h);cases hy:y.k<;>rw[hy]at hk hd<;>simp only[FF,reduceCtorEq]at hk;exact⟨_,by rw[hu,Cz hd]⟩
variable {ms:Array MapEntry}
theorem GZ{c:Nat}(h:w.heap[b]? =some (.map ms c)):(getObj b).run P w= .ok (.map ms c) w:=by
 simp[getObj,Sem.run,h]
theorem Jv{o:Obj}{c:Nat}(h:w.heap[b]? =some (.map ms c)):(setObj b o).run P w= .ok () (w.setB b o):=by
 simp[setObj,Sem.run,h,World.setB]
theorem Mx(hr:AD G w){id:Nat}{es:RL}(hb:G.H[id]? =some (.m es))(hv:RV G (.mp id) v):
  ∃b N ms clock,G.ρ id=some (b,N)/\v= .map (some b)/\w.heap[b]? =some (.map ms clock)/\ms.size=es.length/\
   (∀(k:Nat)(q:D×AV),es[k]? =some q->∃e:MapEntry,ms[k]? =some e/\RD G.m q.1 e.key/\RV G q.2 e.val):=by
 simp only[RV]at hv;obtain⟨_,blk,h1,h2⟩:=hv;rw[hb]at h1;cases h1;obtain⟨b,n,h3,h4⟩:=h2;obtain⟨b',N,ms,clock,k1,k2,k3,k4⟩:=hr.blk id _ hb;rw[h3]at k1;cases k1;exact⟨b,_,ms,clock,h3,h4,k2,k3,k4⟩
variable {x y:AV}
theorem LI(hE:Ai P E)(hr:AD G w){k:AV}{ok:Bool}(h:Hp E G.H t x k ok=some (c,y))(hc:c=true){u:Value}(hx:RV G x v)(hk:RV G k u):
  ∃z,(Instr.lookup t v u ok).run P w= .ok z w/\RV G y z:=by
 subst hc;unfold Hp at h;split at h
 .rename_i id k';split at h
  .rename_i es yt hb hyt;split at h
   .rename_i kt et hyk;split at h
    .rename_i yk ye hkt het;obtain⟨d,hu,hd⟩:=Bp (hE t yt hyt);rw[hyk]at hd;have hd:=Mt hd;subst hd;obtain⟨b,N,ms,clock,e1,e2,e3,e4,e5⟩:=Mx hr hb hx;subst e2;simp only[RV]at hk
     have base:∀{f:Option (Nat×Value)}{kk:IntKind},P.underlying kt=some (.int kk)->Instr.findNow (.int kk) u ms.toList 0=some f->
       (Instr.lookup t (.map (some b)) u ok).run P w=(match f with
        |some (_,v)=>(pure (if ok then .tuple #[v,.bool true]else v):Sem Value)
        |none=>(do let z <-zeroValue et;pure (if ok then .tuple #[z,.bool false]else z))).run P w:=by
      intro f kk hku hf;unfold Instr.lookup;simp only[underlying,Qr,run_program,Ql,hu,Qu,GZ e3,EW hku,Instr.findKey,hku,hf]
      cases f with
      |none=>simp only[Qr,Qu];cases hz:(zeroValue et).run P w<;>simp[Result.andThen,hz]
      |some q=>simp[Qu,Result.andThen]
     split at h
     .rename_i v' hm;simp only[Qj,Qo]at h;obtain⟨hi,rfl⟩:=h;obtain⟨kk,hku⟩:=P1 hE hkt hi;obtain⟨_,f2⟩:=DU (kk:=kk) hk (ms:=ms.toList) 0 hm (by simpa using e4) (fun j q hq=>by simpa using e5 j q hq);obtain⟨j,v2,f3,f4⟩:=f2 _ rfl;refine⟨if ok then .tuple #[v2,.bool true]else v2,by rw[base hku f3];simp,?_⟩;cases ok
      .exact f4
      .simp only[RV,SG];exact⟨[v2,.bool true],rfl,by simp only[AH];exact⟨_,_,rfl,f4,_,_,rfl,by simp[RV,RD],rfl⟩⟩
     .rename_i hm;simp only[Qj,Qo]at h;obtain⟨hi,rfl⟩:=h;obtain⟨kk,hku⟩:=P1 hE hkt hi;obtain⟨f1,_⟩:=DU (kk:=kk) hk (ms:=ms.toList) 0 hm (by simpa using e4) (fun j q hq=>by simpa using e5 j q hq);obtain⟨zv,hzr,hzc⟩:=Be (hE et ye het) w;refine⟨if ok then .tuple #[zv,.bool false]else zv,by rw[base hku (f1 rfl)];simp[Qr,hzr,Result.andThen],?_⟩;cases ok
      .simp[RV]
      .simp only[RV,SG];exact⟨[zv,.bool false],rfl,by simp only[AH];exact⟨_,_,rfl,by simp[RV],_,_,rfl,by simp[RV,RD],rfl⟩⟩
     .cases h
    .cases h
   .cases h
  .cases h
 .cases h
def MW(E:Nat->Option AK)(H:RE)(t:Nat)(x k v:AV):Option (Bool×RE):=
 match x,k with
 | .mp id,.d k=>match H[id]?,E t with
  |some (.m es),some y=>match y.k with
   | .mp kt _=>match E kt with
    |some yk=>match FW k es,setH id (.m (es++[(k,v)])) H with
     |some none,some H'=>some (FF yk.k,H')
     |_,_=>none
    |none=>none
   |_=>none
  |_,_=>none
 |_,_=>none
theorem IX(hE:Ai P E)(hr:AD G w){k v:AV}{H':RE}(h:MW E G.H t x k v=some (c,H'))(hc:c=true){xv kv vv:Value}(hx:RV G x xv)(hk:RV G k kv)(hv:RV G v vv):
  ∃w' G',(Instr.mapUpdate t xv kv vv).run P w= .ok () w'/\G'.H=H'/\AD G' w'/\BE G w G' w':=by
 subst hc;unfold MW at h;split at h
 .rename_i id k';split at h
  .rename_i es yt hb hyt;split at h
   .rename_i kt et hyk;split at h
    .rename_i yk hkt;split at h
     .rename_i H2 hm hset;simp only[Qj,Qo]at h;obtain⟨hi,rfl⟩:=h;obtain⟨d,hu,hd⟩:=Bp (hE t yt hyt);rw[hyk]at hd;have hd:=Mt hd;subst hd;obtain⟨b,N,ms,clock,e1,e2,e3,e4,e5⟩:=Mx hr hb hx;subst e2;simp only[RV]at hk;obtain⟨kk,hku⟩:=P1 hE hkt hi;obtain⟨f1,_⟩:=DU (kk:=kk) hk (ms:=ms.toList) 0 hm (by simpa using e4) (fun j q hq=>by simpa using e5 j q hq);obtain⟨hid,rfl⟩:=D1 hset;have hs:A6 G (G.put id (.m (es++[(k',v)]))) id (.m es) (.m (es++[(k',v)])):=by simp[A6,Gh.put]
      have hgl:=Fw hb hs;have hlt:=(Qp.1 e3).1
      obtain⟨h1,h2⟩:=Ko (obj:=.map (ms.push {key:=kv,val:=vv,born:=clock}) (clock+1)) hr hb rfl rfl e1 hs
       ⟨b,N,_,_,e1,HU _ _ _ hlt,by simp[e4],fun j q hq=>by
        rcases RJ j es.length with hj|hj
        .rw[Qq hj]at hq;obtain⟨e,k1,k2,k3⟩:=e5 j q hq;exact⟨e,by rw[Array.getElem?_push_lt om];rw[<-k1];simp[show j<ms.size by omega],k2.mono hgl.mem,k3.mono hgl⟩
        .rw[Qx hj]at hq
         obtain⟨rfl⟩:j=es.length:=by
          have:=(Qh.1 hq).1;simp at this;omega
         simp at hq;subst hq
         exact⟨{key:=kv,val:=vv,born:=clock},by rw[<-e4];simp,hk.mono hgl.mem,hv.mono hgl⟩⟩
      refine⟨_,_,?_,rfl,h1,h2⟩;unfold Instr.mapUpdate;simp only[underlying,Qr,run_program,Ql,hu,Qu,GZ e3,EW hku,Instr.findKey,hku,f1 rfl];rw[Jv e3]
     .cases h
    .cases h
   .cases h
  .cases h
 .cases h
mutual
def Dg:D->Option Value
 | .b x=>some (.bool x)
 | .i k n=>some (.int k n)
 | .agg cs=>match Ik cs with
  |some l=>some (.agg l.toArray)
  |none=>none
 |_=>none
def Ik:R6->Option (Qf)
 |[]=>some []
 |d::r=>match Dg d,Ik r with
  |some v,some l=>some (v::l)
  |_,_=>none
end
mutual
theorem Hy{m:Mem}:∀{d:D}{u v:Value},Dg d=some u->RD m d v->v=u
 | .b _,_,_,h,r| .i _ _,_,_,h,r=>by simp only[Dg]at h;cases h;simpa only[RD]using r
 | .agg cs,u,v,h,r=>by
  simp only[Dg]at h;split at h
  .rename_i l hl;cases h;simp only[RD]at r;obtain⟨vs,rfl,hvs⟩:=r;rw[Il hl hvs]
  .cases h
 | .s _,_,_,h,_=>by simp[Dg]at h
 | .f _ _,_,_,h,_=>by simp[Dg]at h
 | .tup _,_,_,h,_=>by simp[Dg]at h
 | .by _,_,_,h,_=>by simp[Dg]at h
 | .is _,_,_,h,_=>by simp[Dg]at h
 | .sl _ _,_,_,h,_=>by simp[Dg]at h
 | .np,_,_,h,_=>by simp[Dg]at h
 | .nf,_,_,h,_=>by simp[Dg]at h
 | .ni,_,_,h,_=>by simp[Dg]at h
 | .nm,_,_,h,_=>by simp[Dg]at h
 | .ifc _ _,_,_,h,_=>by simp[Dg]at h
 | .raw _,_,_,h,_=>by simp[Dg]at h
theorem Il{m:Mem}:∀{ds:R6}{us vs:Qf},Ik ds=some us->BJ m ds vs->vs=us
 |[],us,vs,h,r=>by simp only[Ik]at h;cases h;simpa only[BJ]using r
 |d::ds,us,vs,h,r=>by
  simp only[Ik]at h;split at h
  .rename_i v l h1 h2;cases h;simp only[BJ]at r;obtain⟨a,b,rfl,r1,r2⟩:=r;rw[Hy h1 r1,Il h2 r2]
  .cases h
end
def Ii:R8->Option (Qf)
 |[]=>some []
 | .d x::r=>match Dg x,Ii r with
  |some v,some l=>some (v::l)
  |_,_=>none
 |_=>none
theorem Ij{G:Gh}:∀{xs:R8}{us vs:Qf},Ii xs=some us->AH G xs vs->vs=us
 |[],us,vs,h,r=>by simp only[Ii]at h;cases h;simpa only[AH]using r
 |x::xs,us,vs,h,r=>by
  unfold Ii at h;split at h
  .cases ‹_::_=[]›
  .rename_i x' r' heq;cases heq;split at h
   .rename_i v l h1 h2;cases h;simp only[AH]at r;obtain⟨a,b,rfl,r1,r2⟩:=r;simp only[RV]at r1;rw[Hy h1 r1,Ij h2 r2]
   .cases h
  .cases h
def P3:AV->Option Value
 | .d x=>Dg x
 | .ag xs=>match Ii xs with
  |some l=>some (.agg l.toArray)
  |none=>none
 |_=>none
theorem O5{u:Value}(h:P3 x=some u)(r:RV G x v):v=u:=by
 unfold P3 at h;split at h
 .simp only[RV]at r;exact Hy h r
 .split at h
  .rename_i l hl;cases h;simp only[RV]at r;obtain⟨vs,rfl,hvs⟩:=r;rw[Ij hl hvs]
  .cases h
 .cases h
def KZ:K->Bool
 | .ifc=>true
 | .other=>true
 |_=>false
def MU(E:Nat->Option AK)(t:Nat)(x:AV):RB:=
 match E t,P3 x with
 |some y,some v=>some (!KZ y.k,.d (.ifc t v))
 |_,_=>none
theorem MV(hE:Ai P E)(h:MU E t x=some (c,y))(hc:c=true)(hx:RV G x v):
  ∃z,(Instr.makeInterface t v).run P w= .ok z w/\RV G y z:=by
 unfold MU at h;split at h
 .rename_i yt u hyt hl;simp only[Qj,Qo]at h;obtain⟨rfl,rfl⟩:=h;obtain⟨d,hu,hd⟩:=Bp (hE t yt hyt);have:=O5 hl hx;subst this;refine⟨.iface t v,?_,by simp[RV,RD]⟩;unfold Instr.makeInterface;simp only[underlying,Qr,run_program,Ql,hu,Qu]
  cases d<;>first
   |rfl
   |(rw[<-hd]at hc;simp[FV,KZ]at hc;done)
   |simp[Qu]
 .cases h
def GM(E:Nat->Option AK)(x:AV)(asserted:Nat)(ok:Bool):RB:=
 match x,E asserted with
 | .d (.ifc t v),some y=>match Nat.beq t asserted,QD v with
  |true,some z=>some (!KZ y.k,if ok then .tup [z,.d (.b true)]else z)
  |_,_=>none
 |_,_=>none
theorem IW(hE:Ai P E){xt asserted:Nat}{ok:Bool}(h:GM E x asserted ok=some (c,y))(hc:c=true)(hx:RV G x v):
  ∃z,(Instr.typeAssert v xt asserted ok).run P w= .ok z w/\RV G y z:=by
 unfold GM at h;split at h
 .rename_i t u yt hyt;split at h
  .rename_i z hb hz;simp only[Qj,Qo]at h;obtain⟨rfl,rfl⟩:=h;have ht:=Qi hb;subst ht;obtain⟨d,hu,hd⟩:=Bp (hE t yt hyt);simp only[RV,RD]at hx;subst hx;have hrz:RV G z u:=N4 hz;refine⟨if ok then .tuple #[u,.bool true]else u,?_,?_⟩
   .unfold Instr.typeAssert;simp only[underlying,Qr,run_program,Ql,hu,Qu]
    cases d<;>first
     |(rw[<-hd]at hc;simp[FV,KZ]at hc;done)
     |simp[Qu]
   .cases ok
    .exact hrz
    .simp only[RV,SG];exact⟨[u,.bool true],rfl,by simp only[AH];exact⟨_,_,rfl,hrz,_,_,rfl,by simp[RV,RD],rfl⟩⟩
  .cases h
 .cases h
end Go.Gar
