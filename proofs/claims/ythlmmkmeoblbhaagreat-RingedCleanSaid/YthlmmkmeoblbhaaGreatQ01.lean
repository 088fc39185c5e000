/- Part 1 of a proof. Conditions: those that its theorems state. -/
import Derived.RangeFuncLeaves
import Derived.OrdersIn
import Derived.TacticsIn
import Derived.ChangeKeysEq
import Derived.Laws.OwnMore
import Derived.Laws.IdiomStrings
import Derived.Laws.BytesArg
set_option linter.unusedSimpArgs false
set_option linter.unusedVariables false
set_option linter.unnecessarySimpa false
set_option maxHeartbeats 40000000
set_option maxRecDepth 4000
namespace Go
theorem om {p : Prop} (h : p:=by omega) : p:=h
theorem sm {p : Prop} (h : p:=by simp) : p:=h
theorem yU:type_of% @Bool.and_eq_true:=@Bool.and_eq_true
theorem yV:type_of% @Nat.le_refl:=@Nat.le_refl
theorem yX:type_of% @decide_eq_true:=@decide_eq_true
theorem yY:type_of% @decide_eq_false:=@decide_eq_false
theorem yZ:type_of% @List.getElem?_eq_some_iff:=@List.getElem?_eq_some_iff
theorem yc:type_of% @decide_eq_true_eq:=@decide_eq_true_eq
theorem yg:type_of% @And.intro:=@And.intro
theorem yh:type_of% @Option.some.injEq:=@Option.some.injEq
theorem yj:type_of% @List.getElem?_eq_getElem:=@List.getElem?_eq_getElem
theorem yu:type_of% @List.length_cons:=@List.length_cons
theorem yw:type_of% @List.length_append:=@List.length_append
theorem yx:type_of% @Nat.zero_le:=@Nat.zero_le
theorem zA:type_of% @List.cons_append:=@List.cons_append
theorem zH:type_of% @Nat.eq_of_beq_eq_true:=@Nat.eq_of_beq_eq_true
theorem zI:type_of% @List.length_nil:=@List.length_nil
theorem zJ:type_of% @List.getD_eq_getElem?_getD:=@List.getD_eq_getElem?_getD
theorem zK:type_of% @List.nil_append:=@List.nil_append
theorem zL:type_of% @Prod.mk.injEq:=@Prod.mk.injEq
theorem zM:type_of% @List.mem_of_getElem?:=@List.mem_of_getElem?
theorem zN:type_of% @if_pos:=@if_pos
theorem zO:type_of% @if_neg:=@if_neg
theorem zQ:type_of% @Result.andThen_ok:=@Result.andThen_ok
theorem zS:type_of% @List.map_append:=@List.map_append
theorem zU:type_of% @List.take_length:=@List.take_length
theorem zV:type_of% @List.map_cons:=@List.map_cons
theorem zW:type_of% @List.getElem?_append_left:=@List.getElem?_append_left
theorem zY:type_of% @List.length_map:=@List.length_map
theorem zZ:type_of% @Array.getElem?_eq_some_iff:=@Array.getElem?_eq_some_iff
theorem zf:type_of% @Sem.run_bind:=@Sem.run_bind
theorem zh:type_of% @List.map_nil:=@List.map_nil
theorem zi:type_of% @True.intro:=@True.intro
theorem zk:type_of% @Sem.run_pure:=@Sem.run_pure
theorem zl:type_of% @List.getElem?_append_right:=@List.getElem?_append_right
theorem zn:type_of% @decide_eq_false_iff_not:=@decide_eq_false_iff_not
theorem zo:type_of% @if_false:=@if_false
theorem zu:type_of% @List.append_assoc:=@List.append_assoc
theorem zx:type_of% @if_true:=@if_true
theorem zy:type_of% @Bool.true_and:=@Bool.true_and
theorem q00:type_of% @List.mem_singleton:=@List.mem_singleton
theorem q02:type_of% @List.mem_cons_self:=@List.mem_cons_self
theorem q03:type_of% @List.getElem?_map:=@List.getElem?_map
theorem q04:type_of% @List.mem_append:=@List.mem_append
theorem q05:type_of% @List.mem_cons_of_mem:=@List.mem_cons_of_mem
theorem q06:type_of% @List.getElem?_set_ne:=@List.getElem?_set_ne
theorem q07:type_of% @List.append_nil:=@List.append_nil
theorem q08:type_of% @List.getElem?_set_self:=@List.getElem?_set_self
theorem q09:type_of% @List.length_take:=@List.length_take
theorem q0A:type_of% @Nat.lt_or_ge:=@Nat.lt_or_ge
theorem q0B:type_of% @Option.map_eq_some_iff:=@Option.map_eq_some_iff
theorem q0C:type_of% @List.mem_cons:=@List.mem_cons
theorem q0D:type_of% @Or.inr:=@Or.inr
theorem q0E:type_of% @Nat.le_trans:=@Nat.le_trans
theorem q0F:type_of% @Bool.false_eq_true:=@Bool.false_eq_true
theorem q0G:type_of% @Bool.or_eq_true:=@Bool.or_eq_true
theorem q0H:type_of% @Bool.not_eq_true':=@Bool.not_eq_true'
theorem q0I:type_of% @List.all_eq_true:=@List.all_eq_true
theorem q0J:type_of% @List.take_append_drop:=@List.take_append_drop
theorem q0K:type_of% @Array.getElem?_setIfInBounds_self_of_lt:=@Array.getElem?_setIfInBounds_self_of_lt
theorem q0L:type_of% @List.pairwise_iff_getElem:=@List.pairwise_iff_getElem
theorem q0M:type_of% @Nat.zero_add:=@Nat.zero_add
theorem q0N:type_of% @Bool.false_or:=@Bool.false_or
theorem q0O:type_of% @List.any_eq_false:=@List.any_eq_false
theorem q0P:type_of% @Array.getElem?_setIfInBounds_ne:=@Array.getElem?_setIfInBounds_ne
theorem q0Q:type_of% @List.length_take_le:=@List.length_take_le
theorem q0R:type_of% @List.getElem?_eq_none:=@List.getElem?_eq_none
theorem q0S:type_of% @List.take_succ_eq_append_getElem:=@List.take_succ_eq_append_getElem
theorem q0T:type_of% @List.getElem?_take:=@List.getElem?_take
theorem q0U:type_of% @List.flatten_cons:=@List.flatten_cons
theorem q0V:type_of% @List.drop_eq_getElem_cons:=@List.drop_eq_getElem_cons
theorem q0W:type_of% @Bool.and_false:=@Bool.and_false
theorem q0X:type_of% @Nat.le_of_ble_eq_true:=@Nat.le_of_ble_eq_true
theorem q0Y:type_of% @List.getElem?_drop:=@List.getElem?_drop
theorem q0Z:type_of% @Bool.false_and:=@Bool.false_and
theorem q0a:type_of% @List.getElem_mem:=@List.getElem_mem
theorem q0b:type_of% @List.length_filter_le:=@List.length_filter_le
theorem q0c:type_of% @List.foldl_cons:=@List.foldl_cons
theorem q0d:type_of% @List.mem_iff_getElem:=@List.mem_iff_getElem
theorem q0e:type_of% @List.mem_iff_getElem?:=@List.mem_iff_getElem?
theorem q0f:type_of% @Bool.and_eq_false_iff:=@Bool.and_eq_false_iff
theorem q0g:type_of% @Bool.and_self:=@Bool.and_self
theorem q0h:type_of% @List.range'_succ:=@List.range'_succ
theorem q0i:type_of% @Nat.add_mul:=@Nat.add_mul
theorem q0j:type_of% @List.all_cons:=@List.all_cons
theorem q0k:type_of% @Nat.blt_eq:=@Nat.blt_eq
theorem q0l:type_of% @Int.le_refl:=@Int.le_refl
theorem q0m:type_of% @Int.toNat_natCast:=@Int.toNat_natCast
theorem q0o:type_of% @UInt8.toNat_ofNat':=@UInt8.toNat_ofNat'
theorem q0p:type_of% @Nat.lt_of_lt_of_le:=@Nat.lt_of_lt_of_le
theorem q0q:type_of% @List.mem_map:=@List.mem_map
theorem q0r:type_of% @List.find?_eq_none:=@List.find?_eq_none
theorem q0s:type_of% @Int.natCast_nonneg:=@Int.natCast_nonneg
theorem q0t:type_of% @List.mem_or_eq_of_mem_set:=@List.mem_or_eq_of_mem_set
theorem q0u:type_of% @List.getD_cons_zero:=@List.getD_cons_zero
theorem q0v:type_of% @Array.length_toList:=@Array.length_toList
theorem q0w:type_of% @Or.inl:=@Or.inl
theorem q0x:type_of% @Nat.eq_zero_or_pos:=@Nat.eq_zero_or_pos
theorem q0y:type_of% @List.length_set:=@List.length_set
theorem q14:type_of% @Bool.or_eq_false_iff:=@Bool.or_eq_false_iff
theorem q15:type_of% @List.length_drop:=@List.length_drop
theorem q17:type_of% @List.take_of_length_le:=@List.take_of_length_le
theorem q18:type_of% @List.getElem?_set:=@List.getElem?_set
theorem q19:type_of% @List.foldl_append:=@List.foldl_append
theorem q1A:type_of% @Decidable.byContradiction:=@Decidable.byContradiction
theorem q1B:type_of% @Nat.add_zero:=@Nat.add_zero
theorem q1C:type_of% @Bool.false_ne_true:=@Bool.false_ne_true
theorem q1D:type_of% @List.eq_nil_of_length_eq_zero:=@List.eq_nil_of_length_eq_zero
theorem q1E:type_of% @List.any_eq_true:=@List.any_eq_true
theorem q1F:type_of% @List.length_eq_zero_iff:=@List.length_eq_zero_iff
theorem q1G:type_of% @List.getElem?_cons_succ:=@List.getElem?_cons_succ
theorem q1H:type_of% @of_decide_eq_true:=@of_decide_eq_true
theorem q1I:type_of% @Int.fdiv_eq_ediv_of_nonneg:=@Int.fdiv_eq_ediv_of_nonneg
theorem q1J:type_of% @decide_false:=@decide_false
theorem q1K:type_of% @Oper.semAt_eq:=@Oper.semAt_eq
theorem q1L:type_of% @Nat.beq_refl:=@Nat.beq_refl
theorem q1M:type_of% @List.pairwise_cons:=@List.pairwise_cons
theorem q1N:type_of% @Nat.pow_le_pow_right:=@Nat.pow_le_pow_right
theorem q1O:type_of% @wpIn_mono:=@wpIn_mono
theorem q1P:type_of% @List.mem_of_mem_eraseIdx:=@List.mem_of_mem_eraseIdx
theorem q1Q:type_of% @beq_eq_false_iff_ne:=@beq_eq_false_iff_ne
theorem q1R:type_of% @List.getElem?_cons_zero:=@List.getElem?_cons_zero
theorem q1S:type_of% @Int.toNat_of_nonneg:=@Int.toNat_of_nonneg
theorem q1T:type_of% @Option.getD_some:=@Option.getD_some
theorem q1U:type_of% @heap_alloc_old:=@heap_alloc_old
theorem q1V:type_of% @Option.isNone_some:=@Option.isNone_some
theorem q1W:type_of% @Option.isNone_none:=@Option.isNone_none
theorem q1X:type_of% @UInt8.toNat_inj:=@UInt8.toNat_inj
theorem q1Y:type_of% @Bool.not_true:=@Bool.not_true
theorem q1Z:type_of% @Int.tmod_eq_emod_of_nonneg:=@Int.tmod_eq_emod_of_nonneg
theorem q1a:type_of% @Array.getElem?_append_left:=@Array.getElem?_append_left
theorem q1b:type_of% @Nat.mul_le_mul_right:=@Nat.mul_le_mul_right
theorem q1c:type_of% @List.take_zero:=@List.take_zero
theorem q1d:type_of% @List.lt_irrefl:=@List.lt_irrefl
theorem q1e:type_of% @List.not_mem_nil:=@List.not_mem_nil
abbrev AT:=List UInt8
abbrev Ao:=List Int
abbrev BK:=List Nat
abbrev y4:=List (Nat×Nat)
abbrev y6:=List Value
abbrev yW:=Option Nat
abbrev ya:=Array Oper
abbrev yb:=List Oper
abbrev yd:=Array Value
abbrev yf:=List Frame
abbrev ym:=List PanicEntry
abbrev yn:=Array Bool
end Go
namespace Go.Gar
inductive D where
 |b (x:Bool)
 |i (k:IntKind) (n:Int)
 |s (l:AT)
 |f (k:FloatKind) (x:Nat)
 |agg (cs:List D)
 |tup (cs:List D)
 |by(l:AT)
 |is (l:Ao)
 |sl (sz:Nat) (es:List (List D))
 |np
 |nf
 |ni
 |nm
 |ifc (t:TypeId) (x:Value)
 |raw (x:Value)
 deriving Inhabited
abbrev yo:=List D
abbrev Mem:=Nat->Nat->Option Value
def cT(m:Mem)(vs:y6)(v:Value):Prop:=
 ∃a cap,v= .slice a vs.length cap/\vs.length<=cap/\(vs=[]\/∃b off,a=some ⟨b,off,none⟩/\∀(k:Nat)(x:Value),vs[k]? =some x->m b (off+k)=some x)
variable {m:Mem}
theorem cT.mono{m':Mem}(h:∀b k v,m b k=some v->m' b k=some v){vs:y6}{v:Value}(r:cT m vs v):cT m' vs v:=by
 obtain⟨a,cap,hv,hl,hr⟩:=r;refine⟨a,cap,hv,hl,hr.imp id ?_⟩;rintro⟨b,off,ha,he⟩;exact⟨b,off,ha,fun k x hx=>h _ _ _ (he k x hx)⟩
def ZX(l:AT):y6:=l.map fun x=> .int .u8 (x.toNat:Int)
def xu(l:Ao):y6:=l.map fun x=> .int .i64 x
mutual
def RD(m:Mem):D->Value->Prop
 | .b x,v=>v= .bool x
 | .i k n,v=>v= .int k n
 | .s l,v=>v= .string ⟨l.toArray⟩
 | .f k x,v=>v= .float k x
 | .agg cs,v=>∃vs:y6,v= .agg vs.toArray/\Eb m cs vs
 | .tup cs,v=>∃vs:y6,v= .tuple vs.toArray/\Eb m cs vs
 | .by l,v=>cT m (ZX l) v
 | .is l,v=>cT m (xu l) v
 | .sl sz es,v=>∃a cap,v= .slice a es.length cap/\es.length<=cap/\(es=[]\/∃b off,a=some ⟨b,off,none⟩/\Vg m sz es b off)
 | .np,v=>v= .pointer none
 | .nf,v=>v= .nilFunc
 | .ni,v=>v= .nilIface
 | .nm,v=>v= .map none
 | .ifc t x,v=>v= .iface t x
 | .raw x,v=>v=x/\x.oneCell'=true
def Eb(m:Mem):yo->y6->Prop
 |[],vs=>vs=[]
 |d::ds,vs=>∃v r,vs=v::r/\RD m d v/\Eb m ds r
def N5(m:Mem):yo->Nat->Nat->Prop
 |[],_,_=>True
 |d::ds,b,off=>(∃v,m b off=some v/\v.oneCell'=true/\RD m d v)/\N5 m ds b (off+1)
def Vg(m:Mem)(sz:Nat):List (yo)->Nat->Nat->Prop
 |[],_,_=>True
 |e::es,b,off=>e.length=sz/\N5 m e b off/\Vg m sz es b (off+sz)
end
def Mem.le(m m':Mem):Prop:=∀b k v,m b k=some v->m' b k=some v
theorem Mem.le_refl(m:Mem):m.le m:=fun _ _ _ h=>h
theorem Mem.le_trans{a b c:Mem}(h:a.le b)(k:b.le c):a.le c:=fun x y z hz=>k x y z (h x y z hz)
mutual
theorem RD.mono{m m':Mem}(h:m.le m'):∀{d:D}{v:Value},RD m d v->RD m' d v
 | .b _,_,r=>by simpa[RD]using r
 | .i _ _,_,r=>by simpa[RD]using r
 | .s _,_,r=>by simpa[RD]using r
 | .f _ _,_,r=>by simpa[RD]using r
 | .agg _,_,r| .tup _,_,r=>by
  simp only[RD]at r|-;obtain⟨vs,hv,hr⟩:=r;exact⟨vs,hv,Eb.mono h hr⟩
 | .by l,v,r=>by simp only[RD]at r|-;exact r.mono h
 | .is l,v,r=>by simp only[RD]at r|-;exact r.mono h
 | .sl sz es,v,r=>by
  simp only[RD]at r|-;obtain⟨a,cap,hv,hl,hr⟩:=r;refine⟨a,cap,hv,hl,hr.imp id ?_⟩;rintro⟨b,off,ha,he⟩;exact⟨b,off,ha,Vg.mono h he⟩
 | .np,_,r=>by simpa[RD]using r
 | .nf,_,r=>by simpa[RD]using r
 | .ni,_,r=>by simpa[RD]using r
 | .nm,_,r=>by simpa[RD]using r
 | .ifc _ _,_,r=>by simpa[RD]using r
 | .raw _,_,r=>by simpa[RD]using r
theorem Eb.mono{m m':Mem}(h:m.le m'):∀{ds:yo}{vs:y6},Eb m ds vs->Eb m' ds vs
 |[],_,r=>by simpa[Eb]using r
 |d::ds,vs,r=>by
  simp only[Eb]at r|-;obtain⟨v,q,hv,hd,hr⟩:=r;exact⟨v,q,hv,RD.mono h hd,Eb.mono h hr⟩
theorem N5.mono{m m':Mem}(h:m.le m'):∀{ds:yo}{b off:Nat},N5 m ds b off->N5 m' ds b off
 |[],_,_,_=>by simp[N5]
 |d::ds,b,off,r=>by
  simp only[N5]at r|-;obtain⟨⟨v,hm,h1,hd⟩,hr⟩:=r;exact⟨⟨v,h _ _ _ hm,h1,RD.mono h hd⟩,N5.mono h hr⟩
theorem Vg.mono{m m':Mem}(h:m.le m'){sz:Nat}:∀{es:List (yo)}{b off:Nat},Vg m sz es b off->Vg m' sz es b off
 |[],_,_,_=>by simp[Vg]
 |e::es,b,off,r=>by
  simp only[Vg]at r|-;obtain⟨hl,hc,hr⟩:=r;exact⟨hl,N5.mono h hc,Vg.mono h hr⟩
end
def B3:D->Nat
 | .by l=>l.length
 | .is l=>l.length
 | .sl _ es=>es.length
 |_=>0
def Bt:D->Nat
 | .sl sz _=>sz
 |_=>1
def slc:D->yo
 | .by l=>l.map fun x=> .i .u8 (x.toNat:Int)
 | .is l=>l.map fun x=> .i .i64 x
 | .sl _ es=>es.flatten
 |_=>[]
def B8:D->Bool
 | .by _| .is _| .sl _ _=>true
 |_=>false
def Aq:D->Prop
 | .sl sz es=>∀e∈es,e.length=sz
 |_=>True
theorem Gv{x:D}(hs:B8 x=true)(ho:Aq x):(slc x).length=B3 x*Bt x:=by
 cases x<;>simp[B8]at hs<;>simp[slc,B3,Bt];rename_i sz es;simp only[Aq]at ho;clear hs
 induction es with
 |nil=>simp
 |cons e r ih=>
  have:=ih (fun x hx=>ho x (by simp[hx]));simp[this,ho e sm,q0i];omega
theorem Hw{m:Mem}{b:Nat}:∀{cs:yo}{off:Nat},N5 m cs b off↔∀(k:Nat)(d:D),cs[k]? =some d->∃v,m b (off+k)=some v/\v.oneCell'=true/\RD m d v
 |[],off=>by simp[N5]
 |c::cs,off=>by
  simp only[N5];rw[Hw (cs:=cs)];constructor
  .rintro⟨h1,h2⟩ k d hd
   cases k with
   |zero=>simp at hd;subst hd;simpa using h1
   |succ k=>have:=h2 k d (by simpa using hd);rwa [show off+(k+1)=off+1+k by omega]
  .intro h;refine⟨by simpa using h 0 c sm,fun k d hd=> ?_⟩;have:=h (k+1) d (by simpa using hd);rwa [show off+1+k=off+(k+1)by omega]
theorem Re{m:Mem}{b:Nat}:∀{xs ys:yo}{off:Nat},N5 m (xs++ys) b off↔N5 m xs b off/\N5 m ys b (off+xs.length)
 |[],ys,off=>by simp[N5]
 |x::xs,ys,off=>by
  simp only[zA,N5,yu];rw[Re (xs:=xs),show off+1+xs.length=off+(xs.length+1)by omega,and_assoc]
theorem Nh{m:Mem}{sz b:Nat}:∀{es:List (yo)}{off:Nat},Vg m sz es b off↔(∀e∈es,e.length=sz)/\N5 m es.flatten b off
 |[],off=>by simp[Vg,N5]
 |e::es,off=>by
  simp only[Vg,q0U];rw[Re,Nh (es:=es)];constructor
  .rintro⟨h1,h2,h3,h4⟩;refine⟨fun x hx=> ?_,h2,by rw[h1];exact h4⟩;rcases q0C.1 hx with rfl|hx
   .exact h1
   .exact h3 x hx
  .rintro⟨h1,h2,h3⟩;have he:=h1 e sm;exact⟨he,h2,fun x hx=>h1 x (by simp[hx]),by rw[<-he];exact h3⟩
theorem Ek{x:D}(hs:B8 x=true){v:Value}:RD m x v↔∃a cap,v= .slice a (B3 x) cap/\B3 x<=cap/\Aq x/\
  (B3 x=0\/∃b off,a=some ⟨b,off,none⟩/\∀(k:Nat)(d:D),(slc x)[k]? =some d->∃u,m b (off+k)=some u/\u.oneCell'=true/\RD m d u):=by
 cases x<;>simp[B8]at hs
 .rename_i l;simp only[RD,cT,B3,slc,ZX,Aq,zY,true_and];constructor
  .rintro⟨a,cap,h1,h2,h3⟩;refine⟨a,cap,h1,h2,h3.imp sm ?_⟩;rintro⟨b,off,ha,hb⟩;refine⟨b,off,ha,fun k d hd=> ?_⟩;simp only[q03,q0B]at hd;obtain⟨q,hq,rfl⟩:=hd;exact⟨.int .u8 q.toNat,hb k _ (by simp[hq]),rfl,by simp[RD]⟩
  .rintro⟨a,cap,h1,h2,h3⟩;refine⟨a,cap,h1,h2,h3.imp sm ?_⟩;rintro⟨b,off,ha,hb⟩;refine⟨b,off,ha,fun k x hx=> ?_⟩;simp only[q03,q0B]at hx;obtain⟨q,hq,rfl⟩:=hx;obtain⟨u,hu,_,hr⟩:=hb k (.i .u8 q.toNat) (by simp[hq]);simp only[RD]at hr;rw[hu,hr]
 .rename_i l;simp only[RD,cT,B3,slc,xu,Aq,zY,true_and];constructor
  .rintro⟨a,cap,h1,h2,h3⟩;refine⟨a,cap,h1,h2,h3.imp sm ?_⟩;rintro⟨b,off,ha,hb⟩;refine⟨b,off,ha,fun k d hd=> ?_⟩;simp only[q03,q0B]at hd;obtain⟨q,hq,rfl⟩:=hd;exact⟨.int .i64 q,hb k _ (by simp[hq]),rfl,by simp[RD]⟩
  .rintro⟨a,cap,h1,h2,h3⟩;refine⟨a,cap,h1,h2,h3.imp sm ?_⟩;rintro⟨b,off,ha,hb⟩;refine⟨b,off,ha,fun k x hx=> ?_⟩;simp only[q03,q0B]at hx;obtain⟨q,hq,rfl⟩:=hx;obtain⟨u,hu,_,hr⟩:=hb k (.i .i64 q) (by simp[hq]);simp only[RD]at hr;rw[hu,hr]
 .rename_i sz es;simp only[RD,B3,slc,Aq];constructor
  .rintro⟨a,cap,h1,h2,h3⟩;rcases h3 with h3|⟨b,off,ha,hb⟩
   .subst h3;exact⟨a,cap,h1,h2,sm,sm⟩
   .rw[Nh]at hb;exact⟨a,cap,h1,h2,hb.1,.inr ⟨b,off,ha,Hw.1 hb.2⟩⟩
  .rintro⟨a,cap,h1,h2,h3,h4⟩;refine⟨a,cap,h1,h2,h4.imp sm ?_⟩;rintro⟨b,off,ha,hb⟩;exact⟨b,off,ha,Nh.2 ⟨h3,Hw.2 hb⟩⟩
inductive AV where
 |d (x:D)
 |u
 |ptr (id off cnt:Nat)
 |sl (id n sz:Nat)
 |bs (id off n sz cnt:Nat)
 |ep (id i off n sz:Nat)
 |e0
 |ag (cs:List AV)
 |tup (cs:List AV)
 |fn (f:Fn) (first cap:List AV)
 |yl (id:Nat)
 |dp (cs:yo)
 |mp (id:Nat)
 deriving Inhabited
abbrev z6:=List (D×AV)
abbrev yy:=Option (Bool×AV)
abbrev yv:=Option AV
abbrev yr:=List (Nat×AV)
abbrev yq:=List AV
structure Lp where
 state:LoopState
 pending:Option Code
 fn:FuncId
 n:Nat
 env:yr
 params:Array Tmp
 assign:Code
 body:Code
inductive AF where
 |gone
 |c (cs:yq)
 |a (x:D)
 |m (es:z6)
 |lp (r:Lp)
 |HW (b N:Nat) (l:AT)
 |many (rs:List (Option (Nat×Nat×AT)))
abbrev yz:=List AF
def AF.qp:AF->Bool
 | .lp _=>true
 |_=>false
def AF.live:AF->Bool
 | .gone| .many _=>false
 |_=>true
def rS(rs:List (Option (Nat×Nat×AT))):BK:=rs.filterMap fun r=>r.map (·.1)
variable {b:Nat}
theorem Wb{rs:List (Option (Nat×Nat×AT))}:b∈rS rs↔∃N l,some (b,N,l)∈rs:=by
 simp only[rS,List.mem_filterMap,q0B];constructor
 .rintro⟨_,h,⟨b',N,l⟩,rfl,rfl⟩;exact⟨N,l,h⟩
 .rintro⟨N,l,h⟩;exact⟨_,h,(b,N,l),rfl,rfl⟩
structure Gh where
 ρ:Nat->Option (Nat×Nat)
 H:yz
 m:Mem
mutual
def RV(G:Gh):AV->Value->Prop
 | .d x,v=>RD G.m x v
 | .u,_=>True
 | .ptr id off cnt,v=>v.oneCell'=true/\∃blk,G.H[id]? =some blk/\
   match blk with
   | .gone=>True
   | .c cs=>cs.length=cnt/\∃b n,G.ρ id=some (b,n)/\v= .pointer (some ⟨b,off,none⟩)
   |_=>False
 | .sl id n sz,v=>v.oneCell'=true/\∃blk,G.H[id]? =some blk/\
   match blk with
   | .gone=>True
   | .a x=>Bt x=sz/\n<=B3 x/\(n=B3 x->(n=0/\∃a,v= .slice a 0 0)\/∃b N cap,G.ρ id=some (b,N)/\v= .slice (some ⟨b,0,none⟩) n cap/\n<=cap/\cap<=maxLen/\N=cap*sz)
   |_=>False
 | .bs id off n sz cnt,v=>v.oneCell'=true/\∃blk,G.H[id]? =some blk/\
   match blk with
   | .gone=>True
   | .c cs=>cs.length=cnt/\off+n*sz<=cnt/\∃b N cap,G.ρ id=some (b,N)/\v= .slice (some ⟨b,off,none⟩) n cap/\n<=cap/\off+cap*sz<=N
   |_=>False
 | .ep id i off n sz,v=>v.oneCell'=true/\∃blk,G.H[id]? =some blk/\
   match blk with
   | .gone=>True
   | .a x=>Bt x=sz/\n<=B3 x/\(n=B3 x->∃b N,G.ρ id=some (b,N)/\v= .pointer (some ⟨b,i*sz+off,none⟩))
   |_=>False
 | .e0,v=>∃a,v= .slice a 0 0
 | .ag cs,v=>∃vs:y6,v= .agg vs.toArray/\BP G cs vs
 | .tup cs,v=>∃vs:y6,v= .tuple vs.toArray/\BP G cs vs
 | .fn f first cap,v=>∃p q:y6,v= .func f p.toArray q.toArray/\BP G first p/\BP G cap q
 | .yl id,v=>v.oneCell'=true/\∃blk,G.H[id]? =some blk/\
   match blk with
   | .gone=>True
   | .lp _=>∃b n,G.ρ id=some (b,n)/\v= .func (.yield b) #[] #[]
   |_=>False
 | .dp cs,v=>∃b off,v= .pointer (some ⟨b,off,none⟩)/\N5 G.m cs b off
 | .mp id,v=>v.oneCell'=true/\∃blk,G.H[id]? =some blk/\
   match blk with
   | .gone=>True
   | .m _=>∃b n,G.ρ id=some (b,n)/\v= .map (some b)
   |_=>False
def BP(G:Gh):yq->y6->Prop
 |[],vs=>vs=[]
 |d::ds,vs=>∃v r,vs=v::r/\RV G d v/\BP G ds r
end
def Ap(G G':Gh)(id:Nat):AF->AF->Prop
 | .lp _,.gone=>False
 |_,.gone=>True
 | .c cs,.c cs'=>cs'.length=cs.length/\G'.ρ id=G.ρ id
 | .a x,.a x'=>Bt x'=Bt x/\B3 x<=B3 x'/\(B3 x=B3 x'->G'.ρ id=G.ρ id)
 | .m _,.m _=>G'.ρ id=G.ρ id
 | .lp r,.lp r'=>G'.ρ id=G.ρ id/\r'.fn=r.fn/\r'.n=r.n/\r'.env=r.env/\r'.params=r.params/\r'.assign=r.assign/\r'.body=r.body
 | .HW b N l,.HW b' N' l'=>b'=b/\N'=N/\l'.length=l.length/\G'.ρ id=G.ρ id
 | .many _,.many _=>True
 |_,_=>False
theorem Ap.refl(G:Gh)(id:Nat)(b:AF):Ap G G id b b:=by
 cases b<;>simp[Ap]
variable {G G':Gh}
theorem Ap.trans{G'':Gh}{id:Nat}{a b c:AF}(h:Ap G G' id a b)(k:Ap G' G'' id b c):Ap G G'' id a c:=by
 cases c with
 |gone=>cases a<;>cases b<;>simp_all[Ap]
 |c cs=>
  cases b<;>simp only[Ap]at k;cases a<;>simp only[Ap]at h;exact⟨k.1.trans h.1,k.2.trans h.2⟩
 |a x=>
  cases b<;>simp only[Ap]at k;cases a<;>simp only[Ap]at h;obtain⟨h1,h2,h3⟩:=h;obtain⟨k1,k2,k3⟩:=k;exact⟨k1.trans h1,q0E h2 k2,fun e=>(k3 om).trans (h3 om)⟩
 |m es=>
  cases b<;>simp only[Ap]at k;cases a<;>simp only[Ap]at h;exact k.trans h
 |lp r=>
  cases b<;>simp only[Ap]at k;cases a<;>simp only[Ap]at h;obtain⟨h1,h2,h3,h4,h5,h6,h7⟩:=h;obtain⟨k1,k2,k3,k4,k5,k6,k7⟩:=k;exact⟨k1.trans h1,k2.trans h2,k3.trans h3,k4.trans h4,k5.trans h5,k6.trans h6,k7.trans h7⟩
 |HW _ _ _=>
  cases b<;>simp only[Ap]at k;cases a<;>simp only[Ap]at h;obtain⟨h1,h2,h3,h4⟩:=h;obtain⟨k1,k2,k3,k4⟩:=k;exact⟨k1.trans h1,k2.trans h2,k3.trans h3,k4.trans h4⟩
 |many _=>cases b<;>cases a<;>simp_all[Ap]
structure Iq (G G':Gh):Prop where
 blk:∀id b,G.H[id]? =some b->∃b',G'.H[id]? =some b'/\Ap G G' id b b'
 mem:G.m.le G'.m
theorem Iq.refl(G:Gh):Iq G G:=⟨fun id b h=>⟨b,h,Ap.refl G id b⟩,Mem.le_refl _⟩
theorem Iq.trans{a b c:Gh}(h:Iq a b)(k:Iq b c):Iq a c:=
 ⟨fun id p hx=>by
  obtain⟨y,hy,s⟩:=h.blk id p hx;obtain⟨z,hz,t⟩:=k.blk id y hy
  exact⟨z,hz,s.trans t⟩,Mem.le_trans h.mem k.mem⟩
theorem Iq.len(h:Iq G G'):G.H.length<=G'.H.length:=by
 rcases q0A G'.H.length G.H.length with hlt|hge
 .have hx:G.H[G'.H.length]? =some G.H[G'.H.length]:=by simp[hlt]
  obtain⟨b',hb',_⟩:=h.blk _ _ hx;simp at hb'
 .exact hge
mutual
theorem RV.mono{G G':Gh}(h:Iq G G'):∀{x:AV}{v:Value},RV G x v->RV G' x v
 | .d x,v,r=>by simp only[RV]at r|-;exact RD.mono h.mem r
 | .u,_,_=>by simp[RV]
 | .ptr id off cnt,v,r=>by
  simp only[RV]at r|-;obtain⟨h1c,blk,hb,hr⟩:=r;obtain⟨blk',hb',hs⟩:=h.blk _ _ hb;refine⟨h1c,blk',hb',?_⟩
  cases blk' with
  |gone=>trivial
  |c cs=>
   cases blk<;>simp only[Ap]at hs;obtain⟨hl,b,n,hρ,hv⟩:=hr;exact⟨hs.1.trans hl,b,n,hs.2.trans hρ,hv⟩
  |a _|m _|lp _|HW _ _ _|many _=>cases blk<;>simp_all[Ap]
 | .sl _ _ _,_,r| .ep _ _ _ _ _,_,r=>by
  simp only[RV]at r|-;obtain⟨h1c,blk,hb,hr⟩:=r;obtain⟨blk',hb',hs⟩:=h.blk _ _ hb;refine⟨h1c,blk',hb',?_⟩
  cases blk' with
  |gone=>trivial
  |a x'=>
   cases blk<;>simp only[Ap]at hs;obtain⟨h1,h2,h3⟩:=hr;obtain⟨s1,s2,s3⟩:=hs;refine⟨s1.trans h1,om,fun e=> ?_⟩;have e2:=h3 om;rw[s3 om];exact e2
  |c _|m _|lp _|HW _ _ _|many _=>cases blk<;>simp_all[Ap]
 | .bs id off n sz cnt,v,r=>by
  simp only[RV]at r|-;obtain⟨h1c,blk,hb,hr⟩:=r;obtain⟨blk',hb',hs⟩:=h.blk _ _ hb;refine⟨h1c,blk',hb',?_⟩
  cases blk' with
  |gone=>trivial
  |c cs=>
   cases blk<;>simp only[Ap]at hs;obtain⟨hl,ho,b,N,cap,hρ,hv⟩:=hr;exact⟨hs.1.trans hl,ho,b,N,cap,hs.2.trans hρ,hv⟩
  |a _|m _|lp _|HW _ _ _|many _=>cases blk<;>simp_all[Ap]
 | .e0,_,r=>by simpa[RV]using r
 | .ag _,_,r| .tup _,_,r=>by
  simp only[RV]at r|-;obtain⟨vs,hv,hr⟩:=r;exact⟨vs,hv,BP.mono h hr⟩
 | .fn f first cap,v,r=>by
  simp only[RV]at r|-;obtain⟨p,q,hv,hp,hq⟩:=r;exact⟨p,q,hv,BP.mono h hp,BP.mono h hq⟩
 | .yl id,v,r=>by
  simp only[RV]at r|-;obtain⟨h1c,blk,hb,hr⟩:=r;obtain⟨blk',hb',hs⟩:=h.blk _ _ hb;refine⟨h1c,blk',hb',?_⟩
  cases blk' with
  |gone=>trivial
  |lp r'=>
   cases blk<;>simp only[Ap]at hs;obtain⟨b,n,hρ,hv⟩:=hr;exact⟨b,n,hs.1.trans hρ,hv⟩
  |a _|m _|c _|HW _ _ _|many _=>cases blk<;>simp_all[Ap]
 | .dp cs,v,r=>by
  simp only[RV]at r|-;obtain⟨b,off,hv,hr⟩:=r;exact⟨b,off,hv,N5.mono h.mem hr⟩
 | .mp id,v,r=>by
  simp only[RV]at r|-;obtain⟨h1c,blk,hb,hr⟩:=r;obtain⟨blk',hb',hs⟩:=h.blk _ _ hb;refine⟨h1c,blk',hb',?_⟩
  cases blk' with
  |gone=>trivial
  |m es=>
   cases blk<;>simp only[Ap]at hs;obtain⟨b,n,hρ,hv⟩:=hr;exact⟨b,n,hs.trans hρ,hv⟩
  |a _|lp _|c _|HW _ _ _|many _=>cases blk<;>simp_all[Ap]
theorem BP.mono{G G':Gh}(h:Iq G G'):∀{xs:yq}{vs:y6},BP G xs vs->BP G' xs vs
 |[],_,r=>by simpa[BP]using r
 |x::xs,vs,r=>by
  simp only[BP]at r|-;obtain⟨v,q,hv,hd,hr⟩:=r;exact⟨v,q,hv,RV.mono h hd,BP.mono h hr⟩
end
def get:yr->Nat->yv
 |[],_=>none
 |(k,v)::r,n=>if Nat.beq k n then some v else get r n
def IH(G:Gh)(env:yr)(tmps:yd):Prop:=∀t x,get env t=some x->∃v,tmps[t]? =some v/\RV G x v
theorem IH.mono(h:Iq G G'){env:yr}{tmps:yd}(r:IH G env tmps):IH G' env tmps:=
 fun t x hx=>let⟨v,hv,hr⟩:=r t x hx;⟨v,hv,hr.mono h⟩
def BR(G:Gh)(w:World)(id:Nat):AF->Prop
 | .gone=>True
 | .c cs=>∃b N vs T,G.ρ id=some (b,N)/\w.heap[b]? =some (.cells vs T (0,0))/\vs.size=N/\cs.length<=N/\(∀(k:Nat)(x:AV),cs[k]? =some x->∃v,vs[k]? =some v/\RV G x v)
 | .a x=>B8 x=true/\Aq x/\((B3 x=0/\G.ρ id=none)\/∃b N vs T,G.ρ id=some (b,N)/\w.heap[b]? =some (.cells vs T (0,0))/\vs.size=N/\
   (∀(k:Nat)(d:D),(slc x)[k]? =some d->∃v,vs[k]? =some v/\v.oneCell'=true/\RD G.m d v))
 | .m es=>∃b N ms clock,G.ρ id=some (b,N)/\w.heap[b]? =some (.map ms clock)/\ms.size=es.length/\
   (∀(k:Nat)(q:D×AV),es[k]? =some q->∃e:MapEntry,ms[k]? =some e/\RD G.m q.1 e.key/\RV G q.2 e.val)
 | .lp r=>∃l N,∃df:Nat×FuncId,∃tmps,G.ρ id=some (l,N)/\
   w.heap[l]? =some (.loop {state:=r.state,pending:=r.pending,fn:=df.2,tmps:=tmps,params:=r.params,assign:=r.assign,body:=r.body,defers:=df.1})/\
   tmps.size=r.n/\IH G r.env tmps
 | .HW b N l=>∃vs T,G.ρ id=some (b,N)/\w.heap[b]? =some (.cells vs T (0,0))/\vs.size=N/\l.length<=N/\∀(k:Nat)(x:UInt8),l[k]? =some x->vs[k]? =some (.int .u8 (x.toNat:Int))
 | .many rs=>∀b N l,some (b,N,l)∈rs->∃vs T,w.heap[b]? =some (.cells vs T (0,0))/\vs.size=N/\l.length<=N/\∀(k:Nat)(x:UInt8),l[k]? =some x->vs[k]? =some (.int .u8 (x.toNat:Int))
def EX(G:Gh)(b:Nat):Prop:=∃id N blk,G.H[id]? =some blk/\blk.live=true/\G.ρ id=some (b,N)
def vz(G:Gh)(b:Nat):Prop:=∃(id:Nat)(rs:List (Option (Nat×Nat×AT))),G.H[id]? =some (AF.many rs)/\b∈rS rs
def Own(G:Gh)(b:Nat):Prop:=EX G b\/vz G b
theorem JM(hS:∀(id:Nat)(rs:List (Option (Nat×Nat×AT))),G'.H[id]? =some (AF.many rs)->G.H[id]? =some (AF.many rs))(hP:∀b,EX G' b->EX G b):∀b,Own G' b->Own G b:=
 fun b h=>h.imp (hP b) fun⟨id,rs,h1,h2⟩=>⟨id,rs,hS id rs h1,h2⟩
theorem Wh{n:Nat}(hS:∀(id:Nat)(rs:List (Option (Nat×Nat×AT))),G'.H[id]? =some (AF.many rs)->G.H[id]? =some (AF.many rs))(hP:∀b,EX G' b->EX G b\/b=n):∀b,Own G' b->Own G b\/b=n:=
 fun b h=>h.elim (fun h=>(hP b h).imp_left .inl) fun⟨id,rs,h1,h2⟩=> .inl (.inr ⟨id,rs,hS id rs h1,h2⟩)
variable {ρ:Nat->Option (Nat×Nat)}
theorem R2:¬Own {ρ:=ρ,H:=[],m:=m} b:=by
 rintro(⟨id,N,q,hq,_⟩|⟨id,rs,hq,_⟩)<;>simp at hq
def je(G:Gh):Prop:=∀(id:Nat)(rs:List (Option (Nat×Nat×AT))),G.H[id]? =some (AF.many rs)->(rS rs).Nodup/\∀b,b∈rS rs->¬EX G b/\∀(id':Nat)(rs':List (Option (Nat×Nat×AT))),G.H[id']? =some (AF.many rs')->b∈rS rs'->id'=id
theorem Yf:je {ρ:=ρ,H:=[],m:=m}:=fun id rs h=>by simp at h
theorem je.of{n:Nat}(h:je G)(hlt:∀b,vz G b->b<n)(hS:∀(id:Nat)(rs:List (Option (Nat×Nat×AT))),G'.H[id]? =some (AF.many rs)->G.H[id]? =some (AF.many rs))(hP:∀b,EX G' b->EX G b\/n<=b):je G':=fun id rs hid=>by
 obtain⟨h1,h2⟩:=h id rs (hS id rs hid);refine⟨h1,fun b hb=>⟨fun ho=> ?_,fun id' rs' hi hb'=>(h2 b hb).2 id' rs' (hS id' rs' hi) hb'⟩⟩;rcases hP b ho with ho|ho
 .exact(h2 b hb).1 ho
 .have:=hlt b ⟨id,rs,hS id rs hid,hb⟩;omega
def tQ:List (Nat×List (IntKind×Int)):=[]
def bv(b:Nat):List (Nat×List (IntKind×Int))->Option (List (IntKind×Int))
 |[]=>none
 |(k,l)::r=>if Nat.beq k b then some l else bv b r
def ee:Mem:=fun b k=>match bv b tQ with
 |some l=>(l.map fun p=>Value.int p.1 p.2)[k]?
 |none=>none
def sv(m:Mem):Prop:=ee.le m
def oq(g:Nat):yv:=match bv g tQ with
 |some l=>some (.dp (l.map fun p=> .i p.1 p.2))
 |none=>none
theorem ot(h:sv G.m){g:Nat}{x:AV}(e:oq g=some x):RV G x (.pointer (some ⟨g,0,none⟩)):=by
 unfold oq at e;split at e
 .rename_i l hl;cases e;simp only[RV];refine⟨g,0,rfl,Hw.2 fun k d hd=> ?_⟩;simp only[q03,q0B]at hd;obtain⟨p,hp,rfl⟩:=hd;refine⟨.int p.1 p.2,h g (0+k) _ ?_,rfl,by simp[RD]⟩;unfold ee;rw[hl,q0M];simp[hp]
 .cases e
structure B9 (G:Gh) (w:World):Prop where
 blk:∀id b,G.H[id]? =some b->BR G w id b
 inj:∀id id' p q b N N',G.H[id]? =some p->G.H[id']? =some q->p.live=true->q.live=true->G.ρ id=some (b,N)->G.ρ id'=some (b,N')->id=id'
 mem:∀b k v,G.m b k=some v->w.cell? ⟨b,k,none⟩=some v
 sep:∀b,Own G b->∀k,G.m b k=none
 st:sv G.m
 mny:je G
theorem Bq{w:World}(h:B9 G w)(ho:Own G b):b<w.heap.size:=by
 rcases ho with⟨id,N,blk,hb,hl,hρ⟩|⟨id,rs,hb,hr⟩
 case inr=>
  obtain⟨N,l,hm⟩:=Wb.1 hr;obtain⟨vs,T,hw,_⟩:=h.blk id _ hb b N l hm;exact(zZ.1 hw).1
 have hB:=h.blk id blk hb;have key:∀{o},w.heap[b]? =some o->b<w.heap.size:=fun ho=>(zZ.1 ho).1
 cases blk with
 |gone=>simp[AF.live]at hl
 |many _=>simp[AF.live]at hl
 |c cs=>obtain⟨b',N',vs,T,hρ',hw,_⟩:=hB;rw[hρ]at hρ';cases hρ';exact key hw
 |a x=>
  rcases hB.2.2 with⟨_,hn⟩|⟨b',N',vs,T,hρ',hw,_⟩
  .rw[hρ]at hn;cases hn
  .rw[hρ]at hρ';cases hρ';exact key hw
 |m es=>obtain⟨b',N',ms,cl,hρ',hw,_⟩:=hB;rw[hρ]at hρ';cases hρ';exact key hw
 |lp r=>obtain⟨b',N',df,tmps,hρ',hw,_⟩:=hB;rw[hρ]at hρ';cases hρ';exact key hw
 |HW b' N' l=>obtain⟨vs,T,hρ',hw,_⟩:=hB;rw[hρ]at hρ';cases hρ';exact key hw
structure D4 (G:Gh) (w:World) (G':Gh) (w':World):Prop where
 os:w'.os=w.os
 tape:w'.tape=w.tape
 output:w'.output=w.output
 size:w.heap.size<=w'.heap.size
 keep:∀b,b<w.heap.size->¬Own G b->w'.heap[b]? =w.heap[b]?/\¬Own G' b
 memNew:∀b k v,G'.m b k=some v->G.m b k=some v\/Own G b\/w.heap.size<=b
 gle:Iq G G'
theorem D4.refl(G:Gh)(w:World):D4 G w G w:=
 ⟨rfl,rfl,rfl,yV _,fun _ _ h=>⟨rfl,h⟩,fun _ _ _ h=> .inl h,Iq.refl G⟩
theorem D4.trans{G'':Gh}{w w' w'':World}(h:D4 G w G' w')(k:D4 G' w' G'' w''):D4 G w G'' w'' where
 os:=k.os.trans h.os
 tape:=k.tape.trans h.tape
 output:=k.output.trans h.output
 size:=q0E h.size k.size
 keep b hb ho:=by
  obtain⟨h1,h2⟩:=h.keep b hb ho;obtain⟨k1,k2⟩:=k.keep b (q0p hb h.size) h2;exact⟨k1.trans h1,k2⟩
 memNew b o v hv:=by
  rcases k.memNew b o v hv with k1|k1|k1
  .exact h.memNew b o v k1
  .rcases q0A b w.heap.size with hlt|hge
   .by_cases ho:Own G b
    .exact .inr (.inl ho)
    .exact absurd k1 (h.keep b hlt ho).2
   .exact .inr (.inr hge)
  .exact .inr (.inr (q0E h.size k1))
 gle:=h.gle.trans k.gle
end Go.Gar
namespace Go.Gar
structure St where
 env:yr
 H:yz
 n:Nat
structure NB where
 n:Nat
 base:List Deferred:=[]
def Marks(N:NB)(G:Gh)(a:Act)(w:World):Prop:=
 N.n<=w.heap.size/\∃ms:BK,a.defers=ms.map (fun r=>{target:=.collected r,args:=#[]})++N.base/\ms.Nodup/\∀r∈ms,N.n<=r/\w.heap[r]? =some (.deferred (some []))/\¬Own G r
structure Rel (ro:yW) (N:NB) (S:St) (G:Gh) (a:Act) (w:World):Prop where
 heap:G.H=S.H
 rel:B9 G w
 size:a.tmps.size=S.n
 env:IH G S.env a.tmps
 marks:Marks N G a w
 round:∀id,ro=some id->∃r l N,S.H[id]? =some (.lp r)/\G.ρ id=some (l,N)
def Kv(x:yW):Fence:={fn:=fun _=>True,depth:=none,alive:=false,round:=x}
theorem Gl(x:yW):(Kv x).depth.isSome=true->1<=0:=fun h=>by simp[Kv]at h
def rl(G:Gh)(ro:yW):yW:=ro.bind fun id=>(G.ρ id).map (·.1)
variable {G:Gh}{w:World}
theorem Marks.QH{N:NB}{G':Gh}{a a':Act}{w':World}(h:Marks N G a w)(k:D4 G w G' w')(ha:a'.defers=a.defers):Marks N G' a' w':=by
 obtain⟨h0,ms,h1,h2,h3⟩:=h;refine⟨q0E h0 k.size,ms,ha.trans h1,h2,fun r hr=> ?_⟩;obtain⟨hN,hw,ho⟩:=h3 r hr;obtain⟨k1,k2⟩:=k.keep r (zZ.1 hw).1 ho;exact⟨hN,k1.trans hw,k2⟩
theorem GT{ro:yW}{N:NB}{S S':St}{G':Gh}{a a':Act}{w':World}(h:Rel ro N S G a w)(h':Rel ro N S' G' a' w')(k:D4 G w G' w'):rl G' ro=rl G ro:=by
 cases ro with
 |none=>rfl
 |some id=>
  obtain⟨r,l,N,h1,h2⟩:=h.round id rfl;obtain⟨r',l',N',h1',h2'⟩:=h'.round id rfl;rw[<-h.heap]at h1;rw[<-h'.heap]at h1';obtain⟨b',hb',hs⟩:=k.gle.blk id _ h1;rw[h1']at hb';cases hb';simp only[Ap]at hs;simp[rl,hs.1]
def Post(ro:yW)(N:NB)(G:Gh)(w:World)(Q:Exit->St->Prop):Exit->Act->World->Prop:=
 fun e a' w'=>∃S' G',Q e S'/\Rel ro N S' G' a' w'/\D4 G w G' w'
def W(P:Program)(ro:yW)(c:Code)(S:St)(Q:Exit->St->Prop):Prop:=
 ∀N G a w,Rel ro N S G a w->c.wpIn (Kv (rl G ro)) 0 P (Post ro N G w Q) a w
section
variable {P:Program}{ro:yW}{S:St}{Q:Exit->St->Prop}
variable {N:NB}{G:Gh}{w:World}{Q':Exit->St->Prop}{e:Exit}{w':World}
theorem Post.mono(h:∀e S,Q e S->Q' e S){a':Act}(r:Post ro N G w Q e a' w'):Post ro N G w Q' e a' w':=
 let⟨S',G',q,r1,r2⟩:=r;⟨S',G',h _ _ q,r1,r2⟩
theorem Post.trans{G':Gh}(k:D4 G w G' w'){a'':Act}{w'':World}(r:Post ro N G' w' Q e a'' w''):Post ro N G w Q e a'' w'':=
 let⟨S',G'',q,r1,r2⟩:=r;⟨S',G'',q,r1,k.trans r2⟩
variable {c:Code}
theorem W.mono(h:W P ro c S Q)(hq:∀e S,Q e S->Q' e S):W P ro c S Q':=
 fun N G a w r=>q1O (h N G a w r) fun _ _ _ p=>p.mono hq
theorem JJ(h:Q .normal S):W P ro .skip S Q:=fun _ G _ w r=>wpIn_skip ⟨S,G,h,r,D4.refl G w⟩
theorem ct{l:Nat}(h:Q .normal S):W P ro (.label l) S Q:=fun _ G _ w r=>wpIn_label ⟨S,G,h,r,D4.refl G w⟩
theorem JI{id:Nat}(h:Q (.exit id) S):W P ro (.exit id) S Q:=fun _ G _ w r=>wpIn_exit ⟨S,G,h,r,D4.refl G w⟩
theorem jm{l:Nat}(h:Q (.goto l) S):W P ro (.goto l) S Q:=fun _ G _ w r=>wpIn_goto ⟨S,G,h,r,D4.refl G w⟩
theorem Mn(h:Q .ret S):W P ro .ret S Q:=fun _ G _ w r=>wpIn_ret ⟨S,G,h,r,D4.refl G w⟩
def Ml(K:St->Prop)(Q:Exit->St->Prop):Exit->St->Prop
 | .normal,S=>K S
 |e,S=>Q e S
variable {x y:Code}
theorem Mo(h:W P ro x S (Ml (fun S'=>W P ro y S' Q) Q)):W P ro (.seq x y) S Q:=by
 intro N G a w r;refine wpIn_seq (q1O (h N G a w r) ?_);rintro e a' w' ⟨S',G',q,r',k⟩
 cases e with
 |normal=>
  have q':W P ro y S' Q:=q;have hy:=q' N G' a' w' r';rw[GT r r' k]at hy;exact q1O hy fun _ _ _ p=>p.trans k
 |_=>exact⟨S',G',q,r',k⟩
def gV(f:Value->yv):y6->Option (yq)
 |[]=>some []
 |v::vs=>match f v,gV f vs with|some x,some xs=>some (x::xs)|_,_=>none
def au:Value->yv
 | .bool b=>some (.d (.b b))
 | .int k n=>some (.d (.i k n))
 | .float k n=>some (.d (.f k n))
 | .string s=>some (.d (.s s.data.toList))
 | .pointer none=>some (.d .np)
 | .slice none 0 0=>some .e0
 | .map none=>some (.d .nm)
 | .nilFunc=>some (.d .nf)
 | .nilIface=>some (.d .ni)
 |_=>none
def xy:Value->yv
 | .agg vs=>(gV au vs.toList).map .ag
 |v=>au v
theorem Wc{v:Value}{x:AV}(h:au v=some x):RV G x v:=by
 unfold au at h
 split at h<;>first
  |(cases h;simp[RV,RD];done)
  |(cases h;exact⟨none,rfl⟩)
  |simp at h
theorem rU{vs:y6}{xs:yq}(h:gV au vs=some xs):BP G xs vs:=by
 induction vs generalizing xs with
 |nil=>simp[gV]at h;subst h;simp[BP]
 |cons v vs ih=>
  simp only[gV]at h;split at h
  .rename_i x q h1 h2;cases h;simp only[BP];exact⟨v,vs,rfl,Wc h1,ih h2⟩
  .cases h
theorem mq{v:Value}{x:AV}(h:xy v=some x):RV G x v:=by
 unfold xy at h;split at h
 .rename_i vs
  cases hx:gV au vs.toList with
  |none=>rw[hx]at h;cases h
  |some xs=>
   rw[hx]at h;cases h;simp only[RV];exact⟨vs.toList,sm,rU hx⟩
 .exact Wc h
def Eo(env:yr):Operand->yv
 | .tmp t=>get env t
 | .const v=>xy v
 | .func f=>some (.fn (.func f) [] [])
 | .global g=>oq g
variable {a:Act}
theorem B2{env:yr}(hst:sv G.m)(h:IH G env a.tmps){o:Operand}{x:AV}(hx:Eo env o=some x):RV G x (a.eval o):=by
 cases o with
 |tmp t=>
  obtain⟨v,hv,hr⟩:=h t x hx;have:a.eval (.tmp t)=v:=by simp[Act.eval,hv]
  rw[this];exact hr
 |const v=>exact mq hx
 |func f=>
  simp only[Eo]at hx;cases hx;simp only[RV];exact⟨[],[],rfl,by simp[BP],by simp[BP]⟩
 |global g=>exact ot hst hx
theorem IJ{c:Operand}{t:Bool}(hc:Eo S.env c=some (.d (.b t)))(ht:t=true->W P ro x S Q)(hf:t=false->W P ro y S Q):W P ro (.cond c x y) S Q:=by
 intro N G a w r;have hv:a.eval c= .bool t:=by simpa[RV,RD]using B2 r.rel.st r.env hc
 exact wpIn_cond_split hv (fun h=>ht h N G a w r) (fun h=>hf h N G a w r)
theorem FQ{c:Operand}(hc:Eo S.env c=some (.d (.b true)))(h:W P ro x S Q):W P ro (.cond c x y) S Q:=
 IJ hc (fun _=>h) (fun e=>by cases e)
theorem FP{c:Operand}(hc:Eo S.env c=some (.d (.b false)))(h:W P ro y S Q):W P ro (.cond c x y) S Q:=
 IJ hc (fun e=>by cases e) (fun _=>h)
def P8(id:Nat)(Q:Exit->St->Prop):Exit->St->Prop
 | .exit id',S=>if Nat.beq id' id then Q .normal S else Q (.exit id') S
 |e,S=>Q e S
theorem H7{id:Nat}(h:W P ro c S (P8 id Q)):W P ro (.block id c) S Q:=by
 intro N G a w r;refine wpIn_block (q1O (h N G a w r) ?_);rintro e a' w' ⟨S',G',q,r',k⟩
 cases e with
 |exit id'=>
  simp only[P8]at q;simp only[Exit.inBlock]
  by_cases hid:id'=id
  .subst hid;simp only[q1L,zx]at q|-;exact⟨S',G',q,r',k⟩
  .have hb:Nat.beq id' id=false:=by
    cases hh:Nat.beq id' id with
    |false=>rfl
    |true=>exact absurd (zH hh) hid
   rw[hb]at q;simp only[hid,zo];exact⟨S',G',q,r',k⟩
 |_=>exact⟨S',G',q,r',k⟩
structure XL (G G':Gh):Prop where
 blk:∀id b b',G.H[id]? =some b->G'.H[id]? =some b'->Ap G G' id b b'
 mem:G.m.le G'.m
 own:∀b,Own G' b->Own G b
 memNew:∀b k v,G'.m b k=some v->G.m b k=some v\/Own G b
def A5(S S':St):Prop:=∀ro N G a w,Rel ro N S G a w->(∀id,ro=some id->id<S'.H.length)->∃G',Rel ro N S' G' a w/\XL G G'
theorem D4.ghost{G' G'':Gh}(k:D4 G w G' w')(t:XL G' G'')(hl:G.H.length<=G''.H.length):D4 G w G'' w' where
 os:=k.os
 tape:=k.tape
 output:=k.output
 size:=k.size
 keep b hb ho:=⟨(k.keep b hb ho).1,fun h=>(k.keep b hb ho).2 (t.own b h)⟩
 memNew b o v hv:=by
  rcases t.memNew b o v hv with h|h
  .exact k.memNew b o v h
  .rcases q0A b w.heap.size with hlt|hge
   .by_cases ho:Own G b
    .exact .inr (.inl ho)
    .exact absurd h (k.keep b hlt ho).2
   .exact .inr (.inr hge)
 gle:=by
  refine⟨fun id b hb=> ?_,Mem.le_trans k.gle.mem t.mem⟩;obtain⟨b',hb',hs⟩:=k.gle.blk id b hb;have hid:id<G''.H.length:=q0p (yZ.1 hb).1 hl;exact⟨G''.H[id],yj hid,hs.trans (t.blk id b' _ hb' (yj hid))⟩
theorem Rel.VO{S:St}(r:Rel ro N S G a w):∀id,ro=some id->id<S.H.length:=fun id h=>by
 obtain⟨q,l,N,h1,_⟩:=r.round id h;exact(yZ.1 h1).1
theorem Av{S':St}(t:A5 S S')(hl:S.H.length<=S'.H.length)(h:W P ro c S' Q):W P ro c S Q:=by
 intro N G a w r;obtain⟨G',r',t'⟩:=t ro N G a w r (fun id h=>q0p (r.VO id h) hl);have k:D4 G w G' w:=(D4.refl G w).ghost t' (by rw[r.heap,r'.heap];exact hl);have hy:=h N G' a w r';rw[GT r r' k]at hy;exact q1O hy fun _ _ _ p=>p.trans k
theorem cq(h:W P ro c S Q)(hq:∀e S',Q e S'->∃S'',A5 S' S''/\S.H.length<=S''.H.length/\Q' e S''):W P ro c S Q':=by
 intro N G a w r;refine q1O (h N G a w r) ?_;rintro e a' w' ⟨S',G',q,r',k⟩;obtain⟨S'',t,hl,q'⟩:=hq e S' q;obtain⟨G'',r'',t'⟩:=t ro N G' a' w' r' (fun id h=>q0p (r.VO id h) hl);exact⟨S'',G'',q',r'',k.ghost t' (by rw[r.heap,r''.heap];exact hl)⟩
variable {α:Type}
def tW(St0:α->St)(lt:α->Prop)(k:Nat)(Q:Exit->St->Prop):Exit->St->Prop
 | .normal,S'=>∃y,lt y/\k<=(St0 y).H.length/\A5 S' (St0 y)
 |e,S'=>Q e S'
theorem cI{F:Fence}{n:Nat}{Q:Exit->Act->World->Prop}(I:α->Act->World->Prop)(μ:α->Nat)(x0:α)(h₀:I x0 a w)(round:∀x a w,I x a w->c.wpIn F n P (Exit.then (fun a' w'=>∃y,I y a' w'/\μ y<μ x) Q) a w):(Code.loop c).wpIn F n P Q a w:=by
 intro b k cs hro hb hr
 have key:∀j x a w,μ x=j->I x a w->
   ∃e a' w',Q e a' w'/\ArrivesIn (Machine.fenced P F) P (lone (b.atR a (.code c:: .inLoop c::k)) cs w) b k cs e a' w':=by
  intro j
  induction j using Nat.strongRecOn with
  |_ j ih=>
   intro x a w hn hI;obtain⟨e,a₁,w₁,hq,harr⟩:=round x a w hI b (.inLoop c::k) cs hro hb hr
   cases e with
   |normal=>
    obtain⟨y,hI₁,hlt⟩:=hq;obtain⟨e₂,a₂,w₂,hq₂,harr₂⟩:=ih (μ y) (hn▸hlt) y a₁ w₁ rfl hI₁;exact⟨e₂,a₂,w₂,hq₂,.of_steps (StepsIn.trans harr (.one (fenced_calm (fr:=b.atR a₁ (.inLoop c::k)) hb hr rfl) stepR_inLoop)) harr₂⟩
   |exit id|goto l|ret|panic ch|outgrown=>exact⟨_,a₁,w₁,hq,.pass (x:=.inLoop c) rfl (fun _ _=> .inl sm) harr⟩
 obtain⟨e,a',w',hq,harr⟩:=key _ x0 a w rfl h₀;exact⟨e,a',w',hq,.of_steps (.one (fenced_calm (fr:=b.atR a (.code (.loop c)::k)) hb hr rfl) stepR_loop) harr⟩
theorem tn(St0:α->St)(μ:α->Nat)(x0:α)(t:A5 S (St0 x0))(hl:S.H.length<=(St0 x0).H.length)(body:∀x,W P ro c (St0 x) (tW St0 (fun y=>μ y<μ x) (St0 x).H.length Q)):W P ro (.loop c) S Q:=by
 refine Av t hl ?_;intro N G a w r;refine cI (fun x a' w'=>∃G',Rel ro N (St0 x) G' a' w'/\D4 G w G' w') μ x0 ⟨G,r,D4.refl G w⟩ ?_;rintro x a₁ w₁ ⟨G₁,r₁,k₁⟩;have hb:=body x N G₁ a₁ w₁ r₁;rw[GT r r₁ k₁]at hb;refine q1O hb ?_;rintro e a' w' ⟨S',G',q,r',k⟩
 cases e with
 |normal=>
  obtain⟨y,hlt,hle,t'⟩:=q;obtain⟨G'',r'',t''⟩:=t' ro N G' a' w' r' (fun id h=>q0p (r₁.VO id h) hle);exact⟨y,⟨G'',r'',k₁.trans (k.ghost t'' (by rw[r₁.heap,r''.heap];exact hle))⟩,hlt⟩
 |_=>exact⟨S',G',q,r',k₁.trans k⟩
section
variable {b:Frame}{a:Act}{k:List Item}{cs:yf}{w:World}
theorem QW{c:Code}:step P (lone (b.atR a (.code (.scope c)::k)) cs w)= .next (lone (b.atR a (.code c:: .inScope c::k)) cs w):=
 step_lone_go (by simp[stepG,stepG.exec,Frame.atR])
theorem HH{c:Code}:step P (lone (b.atR a (.inScope c::k)) cs w)= .next (lone (b.atR a k) cs w):=
 step_lone_go (by simp[stepG,stepG.exec,Frame.atR])
end
def Hd(P:Program)(ro:yW)(c:Code)(Q:Exit->St->Prop):Nat->Exit->St->Prop
 |0,.goto l,S=>findLabel c l=none/\Q (.goto l) S
 |j+1,.goto l,S=>match findLabel c l with
  |some rest=>W P ro rest S (Hd P ro c Q j)
  |none=>Q (.goto l) S
 |_,e,S=>Q e S
theorem K1{P:Program}{ro:yW}{Q:Exit->St->Prop}{j:Nat}{S:St}(he:∀l,e≠ .goto l):Hd P ro c Q j e S=Q e S:=by
 cases j<;>cases e<;>first|rfl|exact absurd rfl (he _)
theorem iw{b:Frame}{k:List Item}{cs:yf}{F:Fence}(hF:∃x,F=Kv x)(hro:b.roundOf=F.round)(hb:F.fn b.fn)(hr:F.room (cs.length+1+0)):
  ∀(j:Nat)(N:NB)(c₁:Code)(S:St)(G:Gh)(a:Act)(w:World),Rel ro N S G a w->F=Kv (rl G ro)->W P ro c₁ S (Hd P ro c Q j)->
  ∃e a' w',Post ro N G w Q e a' w'/\ArrivesIn (Machine.fenced P F) P (lone (b.atR a (.code c₁:: .inScope c::k)) cs w) b k cs e a' w':=by
 intro j
 induction j with
 |zero=>
  intro N c₁ S G a w r hf h;have h1:=h N G a w r;rw[<-hf]at h1;obtain⟨e,a',w',⟨S',G',q,r',kk⟩,harr⟩:=h1 b (.inScope c::k) cs hro hb hr
  cases e with
  |normal=>exact⟨.normal,a',w',⟨S',G',q,r',kk⟩,StepsIn.trans harr (.one (fenced_calm (fr:=b.atR a' (.inScope c::k)) hb hr rfl) HH)⟩
  |exit id=>
   refine⟨.exit id,a',w',⟨S',G',q,r',kk⟩,fun k' hk=>harr.1 k' (by simp[exitTo,hk]),fun h1 h2=>harr.2 h1 (by simp[exitTo,h2])⟩
  |goto l=>
   obtain⟨hn,q'⟩:=q;exact⟨.goto l,a',w',⟨S',G',q',r',kk⟩,fun k' hk=>harr.1 k' (by simp[gotoIn,hn,hk]),fun h1 h2=>harr.2 h1 (by simp[gotoIn,hn,h2])⟩
  |ret=>exact⟨.ret,a',w',⟨S',G',q,r',kk⟩,harr⟩
  |panic ch=>exact⟨.panic ch,a',w',⟨S',G',q,r',kk⟩,harr⟩
  |outgrown=>exact⟨.outgrown,a',w',⟨S',G',q,r',kk⟩,harr⟩
 |succ j ih=>
  intro N c₁ S G a w r hf h;have h1:=h N G a w r;rw[<-hf]at h1;obtain⟨e,a',w',⟨S',G',q,r',kk⟩,harr⟩:=h1 b (.inScope c::k) cs hro hb hr
  cases e with
  |normal=>exact⟨.normal,a',w',⟨S',G',q,r',kk⟩,StepsIn.trans harr (.one (fenced_calm (fr:=b.atR a' (.inScope c::k)) hb hr rfl) HH)⟩
  |exit id=>
   refine⟨.exit id,a',w',⟨S',G',q,r',kk⟩,fun k' hk=>harr.1 k' (by simp[exitTo,hk]),fun h1 h2=>harr.2 h1 (by simp[exitTo,h2])⟩
  |goto l=>
   simp only[Hd]at q
   cases hfl:findLabel c l with
   |none=>
    rw[hfl]at q;exact⟨.goto l,a',w',⟨S',G',q,r',kk⟩,fun k' hk=>harr.1 k' (by simp[gotoIn,hfl,hk]),fun h1 h2=>harr.2 h1 (by simp[gotoIn,hfl,h2])⟩
   |some rest=>
    rw[hfl]at q;obtain⟨e₂,a₂,w₂,p₂,harr₂⟩:=ih N rest S' G' a' w' r' (by rw[GT r r' kk];exact hf) q;exact⟨e₂,a₂,w₂,p₂.trans kk,.of_steps (harr.1 _ (by simp[gotoIn,hfl])) harr₂⟩
  |ret=>exact⟨.ret,a',w',⟨S',G',q,r',kk⟩,harr⟩
  |panic ch=>exact⟨.panic ch,a',w',⟨S',G',q,r',kk⟩,harr⟩
  |outgrown=>exact⟨.outgrown,a',w',⟨S',G',q,r',kk⟩,harr⟩
theorem pd(j:Nat)(h:W P ro c S (Hd P ro c Q j)):W P ro (.scope c) S Q:=by
 intro N G a w r b k cs hro hb hr;obtain⟨e,a',w',p,harr⟩:=iw (Q:=Q) (k:=k) (b:=b) (cs:=cs) ⟨_,rfl⟩ hro hb hr j N c S G a w r rfl h;exact⟨e,a',w',p,.of_steps (.one (fenced_calm (fr:=b.atR a (.code (.scope c)::k)) hb hr rfl) QW) harr⟩
mutual
def AV.ok(k:Nat):AV->Bool
 | .d _| .u| .e0| .dp _=>true
 | .ptr id _ _| .sl id _ _| .bs id _ _ _ _| .ep id _ _ _ _| .yl id| .mp id=>Nat.blt id k
 | .ag cs| .tup cs=>AV.oks k cs
 | .fn _ a b=>AV.oks k a&&AV.oks k b
def AV.oks(k:Nat):yq->Bool
 |[]=>true
 |x::r=>x.ok k&&AV.oks k r
end
def F2(k:Nat):yr->Bool
 |[]=>true
 |p::r=>p.2.ok k&&F2 k r
def mapOk(k:Nat):z6->Bool
 |[]=>true
 |p::r=>p.2.ok k&&mapOk k r
def AF.ok(k:Nat):AF->Bool
 | .gone| .a _| .HW _ _ _| .many _=>true
 | .c cs=>AV.oks k cs
 | .m es=>mapOk k es
 | .lp r=>F2 k r.env
def Ai(k:Nat):yz->Bool
 |[]=>true
 |b::r=>b.ok k&&Ai k r
def Lc:yr->yr->Prop
 |[],_=>True
 |p::r,e=>get e p.1=some p.2/\Lc r e
def C0:yz->yz->Prop
 |[],_=>True
 |_::_,[]=>False
 |b::r,b'::r'=>((b= .gone/\b'.qp=false)\/b=b')/\C0 r r'
end
theorem DK{l l':yz}(h:C0 l l'):∀{id:Nat}{b:AF},l[id]? =some b->∃b':AF,l'[id]? =some b'/\((b= .gone/\b'.qp=false)\/b=b'):=by
 induction l generalizing l' with
 |nil=>intro id b hb;simp at hb
 |cons x r ih=>
  cases l' with
  |nil=>simp[C0]at h
  |cons y r'=>
   simp only[C0]at h;intro id b hb
   cases id with
   |zero=>simp at hb;subst hb;exact⟨y,sm,h.1⟩
   |succ id=>simpa using ih h.2 (by simpa using hb)
variable {e:yr}
theorem bw{e':yr}(h:Lc e e'):∀{t:Nat}{x:AV},get e t=some x->get e' t=some x:=by
 induction e with
 |nil=>intro t x hx;simp[get]at hx
 |cons p r ih=>
  intro t x hx;obtain⟨k,y⟩:=p;simp only[get]at hx;simp only[Lc]at h
  cases hk:Nat.beq k t with
  |true=>
   rw[hk]at hx;simp at hx;subst hx;have:=zH hk;subst this;exact h.1
  |false=>
   rw[hk]at hx;exact ih h.2 (by simpa using hx)
def Gh.cut(G:Gh)(H:yz):Gh:={G with H:=H}
mutual
theorem RV.cut{G:Gh}{H:yz}(hs:C0 H G.H):∀{x:AV}{v:Value},x.ok H.length=true->RV G x v->RV (G.cut H) x v
 | .d x,v,_,r=>by simpa only[RV,Gh.cut]using r
 | .u,_,_,_=>by simp[RV]
 | .e0,_,_,r=>by simpa only[RV]using r
 | .dp cs,v,_,r=>by simpa only[RV,Gh.cut]using r
 | .ptr id _ _,_,ho,r| .sl id _ _,_,ho,r| .bs id _ _ _ _,_,ho,r| .ep id _ _ _ _,_,ho,r| .yl id,_,ho,r| .mp id,_,ho,r=>by
  simp only[RV]at r|-;obtain⟨h1c,blk,hb,hr⟩:=r;have hid:id<H.length:=by simpa[AV.ok,q0k]using ho
  obtain⟨b',hb',hk⟩:=DK hs (yj hid);rw[hb]at hb';cases hb';refine⟨h1c,H[id],yj hid,?_⟩;rcases hk with⟨hk,_⟩|hk<;>rw[hk]
  .trivial
  .exact hr
 | .ag _,_,ho,r| .tup _,_,ho,r=>by
  simp only[RV]at r|-;obtain⟨vs,hv,hr⟩:=r;exact⟨vs,hv,BP.cut hs (by simpa[AV.ok]using ho) hr⟩
 | .fn f first cap,v,ho,r=>by
  simp only[RV]at r|-;simp only[AV.ok,yU]at ho;obtain⟨p,q,hv,hp,hq⟩:=r;exact⟨p,q,hv,BP.cut hs ho.1 hp,BP.cut hs ho.2 hq⟩
theorem BP.cut{G:Gh}{H:yz}(hs:C0 H G.H):∀{xs:yq}{vs:y6},AV.oks H.length xs=true->BP G xs vs->BP (G.cut H) xs vs
 |[],_,_,r=>by simpa[BP]using r
 |x::xs,vs,ho,r=>by
  simp only[BP]at r|-;simp only[AV.oks,yU]at ho;obtain⟨v,q,hv,hd,hr⟩:=r;exact⟨v,q,hv,RV.cut hs ho.1 hd,BP.cut hs ho.2 hr⟩
end
variable {k:Nat}
theorem e9{cs:yq}(h:AV.oks k cs=true):∀{i:Nat}{x:AV},cs[i]? =some x->x.ok k=true:=by
 induction cs with
 |nil=>intro i x hx;simp at hx
 |cons c r ih=>
  simp only[AV.oks,yU]at h;intro i x hx
  cases i with
  |zero=>simp at hx;subst hx;exact h.1
  |succ i=>exact ih h.2 (by simpa using hx)
theorem Lt(h:F2 k e=true):∀{t:Nat}{x:AV},get e t=some x->x.ok k=true:=by
 induction e with
 |nil=>intro t x hx;simp[get]at hx
 |cons p r ih=>
  simp only[F2,yU]at h;intro t x hx;simp only[get]at hx;split at hx
  .cases hx;exact h.1
  .exact ih h.2 hx
theorem Uz{es:z6}(h:mapOk k es=true):∀{i:Nat}{q:D×AV},es[i]? =some q->q.2.ok k=true:=by
 induction es with
 |nil=>intro i x hx;simp at hx
 |cons c r ih=>
  simp only[mapOk,yU]at h;intro i x hx
  cases i with
  |zero=>simp at hx;subst hx;exact h.1
  |succ i=>exact ih h.2 (by simpa using hx)
theorem NH{l:yz}(h:Ai k l=true):∀{i:Nat}{b:AF},l[i]? =some b->b.ok k=true:=by
 induction l with
 |nil=>intro i x hx;simp at hx
 |cons c r ih=>
  simp only[Ai,yU]at h;intro i x hx
  cases i with
  |zero=>simp at hx;subst hx;exact h.1
  |succ i=>exact ih h.2 (by simpa using hx)
variable {H:yz}
theorem BR.cut(hs:C0 H G.H){id:Nat}:∀{b:AF},b.ok H.length=true->BR G w id b->BR (G.cut H) w id b
 | .gone,_,_=>trivial
 | .c cs,ho,h=>by
  obtain⟨b,N,vs,T,h1,h2,h3,h4,h6⟩:=h;refine⟨b,N,vs,T,h1,h2,h3,h4,fun k x hx=> ?_⟩;obtain⟨v,hv,hr⟩:=h6 k x hx;exact⟨v,hv,hr.cut hs (e9 ho hx)⟩
 | .a x,_,h=>h
 | .m es,ho,h=>by
  obtain⟨b,N,ms,cl,h1,h2,h3,h4⟩:=h;refine⟨b,N,ms,cl,h1,h2,h3,fun k q hq=> ?_⟩;obtain⟨e,he,hd,hr⟩:=h4 k q hq;exact⟨e,he,hd,hr.cut hs (Uz ho hq)⟩
 | .lp r,ho,h=>by
  obtain⟨l,N,df,tmps,h1,h2,h3,h4⟩:=h;refine⟨l,N,df,tmps,h1,h2,h3,fun t x hx=> ?_⟩;obtain⟨v,hv,hr⟩:=h4 t x hx;exact⟨v,hv,hr.cut hs (Lt ho hx)⟩
 | .HW _ _ _,_,h=>h
 | .many _,_,h=>h
theorem OR(hs:C0 H G.H){b:Nat}(h:Own (G.cut H) b):Own G b:=by
 refine JM (fun id rs hb=> ?_) (fun b h=> ?_) b h
 .obtain⟨b',hb',hk⟩:=DK hs hb;rcases hk with⟨hk,_⟩|hk
  .cases hk
  .rw[hk];exact hb'
 obtain⟨id,N,blk,hb,hl,hρ⟩:=h;obtain⟨b',hb',hk⟩:=DK hs hb;rcases hk with⟨hk,_⟩|hk
 .subst hk;simp[AF.live]at hl
 .subst hk;exact⟨id,N,blk,hb',hl,hρ⟩
theorem B9.cut(h:B9 G w)(hs:C0 H G.H)(ho:Ai H.length H=true):B9 (G.cut H) w where
 blk id b hb:=by
  obtain⟨b',hb',hk⟩:=DK hs hb;rcases hk with⟨hk,_⟩|hk
  .subst hk;trivial
  .subst hk;exact(h.blk id b hb').cut hs (NH ho hb)
 inj id id' p q b N N' hp hq lp lq r1 r2:=by
  obtain⟨p',hp',kp⟩:=DK hs hp;obtain⟨q',hq',kq⟩:=DK hs hq
  have ep:p=p':=by
   rcases kp with⟨kp,_⟩|kp
   .subst kp;simp[AF.live]at lp
   .exact kp
  have eq:q=q':=by
   rcases kq with⟨kq,_⟩|kq
   .subst kq;simp[AF.live]at lq
   .exact kq
  subst ep;subst eq;exact h.inj id id' p q b N N' hp' hq' lp lq r1 r2
 mem:=h.mem
 sep b hb:=h.sep b (OR hs hb)
 st:=h.st
 mny:=h.mny.of (n:=w.heap.size) (fun b hb=>Bq h (.inr hb)) (fun id rs hb=>by
  obtain⟨b',hb',hk⟩:=DK hs hb;rcases hk with⟨hk,_⟩|hk
  .cases hk
  .rw[hk];exact hb') (fun b hb=>by
  obtain⟨id,N,blk,hb,hl,hρ⟩:=hb;obtain⟨b',hb',hk⟩:=DK hs hb;rcases hk with⟨hk,_⟩|hk
  .subst hk;simp[AF.live]at hl
  .subst hk;exact .inl ⟨id,N,blk,hb',hl,hρ⟩)
theorem XL.cut(hs:C0 H G.H):XL G (G.cut H) where
 blk id b b' hb hb':=by
  obtain⟨c,hc,hk⟩:=DK hs hb';rw[hb]at hc;cases hc;rcases hk with⟨hk,hl⟩|hk
  .subst hk;cases b<;>simp_all[Ap,AF.qp]
  .subst hk;cases b'<;>simp[Ap,Gh.cut]
 mem:=Mem.le_refl _
 own b h:=OR hs h
 memNew b k v h:=.inl h
theorem A5.cut{S S':St}(hn:S'.n=S.n)(he:Lc S'.env S.env)(hH:C0 S'.H S.H)(ho:Ai S'.H.length S'.H=true)(heo:F2 S'.H.length S'.env=true): A5 S S':=by
 intro ro N G a w r hlt;have hs:C0 S'.H G.H:=by rw[r.heap];exact hH
 refine⟨G.cut S'.H,⟨rfl,r.rel.cut hs ho,by rw[r.size,hn],?_,?_,?_⟩,XL.cut hs⟩
 .intro t x hx;obtain⟨v,hv,hr⟩:=r.env t x (bw he hx);exact⟨v,hv,hr.cut hs (Lt heo hx)⟩
 .obtain⟨h0,ms,h1,h2,h3⟩:=r.marks;exact⟨h0,ms,h1,h2,fun q hq=>⟨(h3 q hq).1,(h3 q hq).2.1,fun ho'=>(h3 q hq).2.2 (OR hs ho')⟩⟩
 .intro id hid;obtain⟨q,l,N,h1,h2⟩:=r.round id hid;have hid':=hlt id hid;obtain⟨b',hb',hk⟩:=DK hH (yj hid');rw[h1]at hb';cases hb';rcases hk with⟨_,hk⟩|hk
  .simp[AF.qp]at hk
  .exact⟨q,l,N,by rw[yj hid',hk],h2⟩
end Go.Gar
namespace Go.Gar
inductive K where
 |st (fs:y4)
 |arr (len elem:Nat)
 |sl (elem:Nat)
 |ptr (elem:Nat)
 |mp (key elem:Nat)
 |int (k:IntKind)
 |str
 |bool
 |fl (k:FloatKind)
 |fn
 |ifc
 |other
structure Bd where
 k:K
 size:Nat
 bytes:Nat
 agg:Bool
 zero:y6
 eq:Bool
def P3:TypeDesc->K
 | .struct fs=> .st (fs.toList.map fun f=>(f.offset,f.type))
 | .array n e=> .arr n e
 | .slice e=> .sl e
 | .pointer e=> .ptr e
 | .map k e=> .mp k e
 | .int k=> .int k
 | .string=> .str
 | .bool=> .bool
 | .float k=> .fl k
 | .func _ _ _=> .fn
 | .interface _=> .ifc
 |_=> .other
def cy:TypeDesc->Bool
 | .struct _| .array _ _=>true
 |_=>false
def Gp(P:Program)(t:Nat):Option Bd:=
 match P.info? t,P.underlying t with
 |some i,some d=>match i.zero with
  |some z=>if z.cells.toList.length=i.size then some {k:=P3 d,size:=i.size,bytes:=i.bytes,agg:=cy d,zero:=z.cells.toList,eq:=cy d&&P.keyTypeAt 40 t&& !P.eqGuardType P.depth t}else none
  |none=>none
 |_,_=>none
def CV(P:Program)(E:Nat->Option Bd):Prop:=∀t i,E t=some i->Gp P t=some i
variable {P:Program}{t:Nat}{y:Bd}
theorem Ct(h:Gp P t=some y):
  ∃i d z,P.info? t=some i/\P.underlying t=some d/\i.zero=some z/\y.k=P3 d/\y.size=i.size/\y.bytes=i.bytes/\y.agg=cy d/\y.zero=z.cells.toList:=by
 unfold Gp at h;split at h
 .rename_i i d h1 h2;split at h
  .rename_i z h3;split at h
   .cases h;exact⟨i,d,z,h1,h2,h3,rfl,rfl,rfl,rfl,rfl⟩
   .cases h
  .cases h
 .cases h
theorem rK(h:Gp P t=some y)(he:y.eq=true):y.agg=true/\P.keyTypeAt 40 t=true/\P.eqGuardType P.depth t=false:=by
 unfold Gp at h;split at h
 .split at h
  .split at h
   .cases h;simp only[yU,q0H]at he;exact⟨he.1.1,he.1.2,he.2⟩
   .cases h
  .cases h
 .cases h
theorem M0(h:Gp P t=some y):y.zero.length=y.size:=by
 unfold Gp at h;split at h
 .split at h
  .split at h
   .cases h;assumption
   .cases h
  .cases h
 .cases h
section
variable {P:Program}{t:Nat}{y:Bd}(h:Gp P t=some y)(w:World)
include h
theorem BV:(sizeOf t).run P w= .ok y.size w:=by
 obtain⟨i,d,z,h1,h2,h3,h4,h5,h6,h7,h8⟩:=Ct h;simp[sizeOf,typeInfo,h1,h5]
theorem Oe:(isAgg t).run P w= .ok y.agg w:=by
 obtain⟨i,d,z,h1,h2,h3,h4,h5,h6,h7,h8⟩:=Ct h;simp only[isAgg,underlying,zf,run_program,zQ,h2,zk,h7];cases d<;>rfl
theorem FF:∃z:Value,(zeroValue t).run P w= .ok z w/\z.cells.toList=y.zero:=by
 obtain⟨i,d,z,h1,h2,h3,h4,h5,h6,h7,h8⟩:=Ct h;exact⟨z,by simp[zeroValue,typeInfo,h1,h3],h8.symm⟩
theorem As:∃d,(underlying t).run P w= .ok d w/\P3 d=y.k/\P.underlying t=some d:=by
 obtain⟨i,d,z,h1,h2,h3,h4,h5,h6,h7,h8⟩:=Ct h;exact⟨d,by simp[underlying,h2],h4.symm,h2⟩
end
variable {d:TypeDesc}
theorem Pa{fs:y4}(h:P3 d= .st fs):∃q:Array Field,d= .struct q/\fs=q.toList.map fun f=>(f.offset,f.type):=by
 cases d<;>simp[P3]at h;exact⟨_,rfl,h.symm⟩
variable {e:Nat}
theorem Eh(h:P3 d= .sl e):d= .slice e:=by
 cases d<;>simp[P3]at h;rw[h]
theorem Iz{n:Nat}(h:P3 d= .arr n e):d= .array n e:=by
 cases d<;>simp[P3]at h;rw[h.1,h.2]
variable {k:IntKind}
theorem J0(h:P3 d= .int k):d= .int k:=by
 cases d<;>simp[P3]at h;rw[h]
theorem I2(h:P3 d= .str):d= .string:=by
 cases d<;>simp[P3]at h;rfl
theorem OG(h:P3 d= .bool):d= .bool:=by
 cases d<;>simp[P3]at h;rfl
theorem qz(h:P3 d= .ptr e):d= .pointer e:=by
 cases d<;>simp[P3]at h;rw[h]
theorem mJ{k:Nat}(h:P3 d= .mp k e):d= .map k e:=by
 cases d<;>simp[P3]at h;rw[h.1,h.2]
theorem uf(h:P3 d= .fn):∃a b c,d= .func a b c:=by
 cases d<;>simp[P3]at h;exact⟨_,_,_,rfl⟩
def Es(P:Program)(o:Oper)(S:St)(x:AV)(H':yz):Prop:=
 ∀ro N G a w,Rel ro N S G a w->∃r w' G',(execOp a.eval o).run P w= .ok r w'/\(r= .skip/\x= .u\/∃v,r= .value v/\RV G' x v)/\G'.H=H'/\B9 G' w'/\D4 G w G' w'
theorem Es.still{o:Oper}{S:St}{x:AV}(h:∀ro N G a w,Rel ro N S G a w->∃v,(execOp a.eval o).run P w= .ok (.value v) w/\RV G x v):Es P o S x S.H:=by
 intro ro N G a w r;obtain⟨v,h1,h2⟩:=h ro N G a w r;exact⟨_,w,G,h1,.inr ⟨v,rfl,h2⟩,r.heap,r.rel,D4.refl G w⟩
def Ho(k:IntKind)(n:Int):Bool:=
 match k with
 | .i64=>decide (-9223372036854775808<=n)&&decide (n<=9223372036854775807)
 |_=>true
def Hv(k:IntKind)(n:Int):Int:=
 match k with
 | .i64=>n
 |k=>k.wrap n
theorem Jq{n:Int}(h:Ho k n=true):k.wrap n=Hv k n:=by
 cases k<;>simp only[Ho,Hv,yU,yc]at h|-;rw[IntKind.wrap_i64];omega
def Cx(op:BinOp)(k:IntKind)(x y:Int):Int:=
 let a:=BitVec.ofInt k.bits x;let b:=BitVec.ofInt k.bits y
 match op with
 | .and=>k.wrap (a&&&b).toNat
 | .or=>k.wrap (a|||b).toNat
 | .xor=>k.wrap (a^^^b).toNat
 |_=>k.wrap (a&&& ~~~b).toNat
def fL(op:BinOp):D->D->Option (Bool×D)
 | .i k a,.i k' b=>
  match op with
  | .add=>some (decide (k=k')&&Ho k (a+b),.i k (Hv k (a+b)))
  | .sub=>some (decide (k=k')&&Ho k (a-b),.i k (Hv k (a-b)))
  | .mul=>some (decide (k=k')&&Ho k (a*b),.i k (Hv k (a*b)))
  | .quo=>some (decide (k=k')&& !(b==0)&&Ho k (a.tdiv b),.i k (Hv k (a.tdiv b)))
  | .rem=>some (decide (k=k')&& !(b==0),.i k (a.tmod b))
  | .and=>some (decide (k=k'),.i k (Cx .and k a b))
  | .or=>some (decide (k=k'),.i k (Cx .or k a b))
  | .xor=>some (decide (k=k'),.i k (Cx .xor k a b))
  | .andNot=>some (decide (k=k'),.i k (Cx .andNot k a b))
  | .shl=>some (decide (0<=b),.i k (k.wrap (a*2^(min b.toNat k.bits))))
  | .shr=>some (decide (0<=b),.i k (a.fdiv (2^(min b.toNat k.bits))))
  | .eql=>some (decide (k=k'),.b (a==b))
  | .neq=>some (decide (k=k'),.b (a !=b))
  | .lss=>some (decide (k=k'),.b (decide (a<b)))
  | .leq=>some (decide (k=k'),.b (decide (a<=b)))
  | .gtr=>some (decide (k=k'),.b (decide (a>b)))
  | .geq=>some (decide (k=k'),.b (decide (a>=b)))
 | .s a,.s b=>
  match op with
  | .add=>some (decide (a.length+b.length<=9223372036854775807),.s (a++b))
  | .eql=>some (true,.b (a==b))
  | .neq=>some (true,.b (!(a==b)))
  | .lss=>some (true,.b (Op.bytesLess a b))
  | .leq=>some (true,.b (Op.bytesLess a b||a==b))
  | .gtr=>some (true,.b (!(Op.bytesLess a b||a==b)))
  | .geq=>some (true,.b (!(Op.bytesLess a b)))
  |_=>none
 |_,_=>none
variable {s:Sem Value}{m:Mem}{w:World}
theorem JW{n n':Int}(h:s.run P w= .ok (.int k n') w)(e:n'=n):∃v,s.run P w= .ok v w/\RD m (.i k n) v:=
 ⟨_,h,by simp[RD,e]⟩
theorem lF{n n':Bool}(h:s.run P w= .ok (.bool n') w)(e:n'=n):∃v,s.run P w= .ok v w/\RD m (.b n) v:=
 ⟨_,h,by simp[RD,e]⟩
variable {c:Bool}
theorem q9{op:BinOp}{a b:D}{r:D}(h:fL op a b=some (c,r))(hc:c=true){x y:Value}(ha:RD m a x)(hb:RD m b y)(w:World):
  ∃v,(binOp op t x y).run P w= .ok v w/\RD m r v:=by
 subst hc;unfold fL at h;split at h
 .rename_i k a k' b;simp only[RD]at ha hb;subst ha;subst hb;cases op<;>simp only[yh,zL,yU,yc]at h<;>obtain⟨hc,rfl⟩:=h
  .obtain⟨rfl,hf⟩:=hc;exact JW (n':=k.wrap (a+b)) (by simp[binOp,Op.intArith]) (Jq hf)
  .obtain⟨rfl,hf⟩:=hc;exact JW (n':=k.wrap (a-b)) (by simp[binOp,Op.intArith]) (Jq hf)
  .obtain⟨rfl,hf⟩:=hc;exact JW (n':=k.wrap (a*b)) (by simp[binOp,Op.intArith]) (Jq hf)
  .obtain⟨⟨rfl,hz⟩,hf⟩:=hc;exact JW (n':=k.wrap (a.tdiv b)) (by simp[binOp,Op.intDiv,(by simpa using hz:b≠0)]) (Jq hf)
  .obtain⟨rfl,hz⟩:=hc;exact JW (n':=a.tmod b) (by simp[binOp,Op.intDiv,(by simpa using hz:b≠0)]) rfl
  .subst hc;exact JW (n':=Cx .and k a b) (by simp[binOp,Op.intBits,Cx]) rfl
  .subst hc;exact JW (n':=Cx .or k a b) (by simp[binOp,Op.intBits,Cx]) rfl
  .subst hc;exact JW (n':=Cx .xor k a b) (by simp[binOp,Op.intBits,Cx]) rfl
  .exact JW (n':=k.wrap (a*2^(min b.toNat k.bits))) (by simp only[binOp,Op.shift];rw[zO om];rfl) rfl
  .exact JW (n':=a.fdiv (2^(min b.toNat k.bits))) (by simp only[binOp,Op.shift];rw[zO om];rfl) rfl
  .subst hc;exact JW (n':=Cx .andNot k a b) (by simp[binOp,Op.intBits,Cx]) rfl
  all_goals(subst hc;exact lF (by simp[binOp,Op.intCmp]) rfl)
 .rename_i a b;simp only[RD]at ha hb;subst ha;subst hb;cases op<;>simp only[yh,zL,yc,reduceCtorEq]at h
  .obtain⟨hc,rfl⟩:=h;refine⟨.string (⟨a.toArray⟩++⟨b.toArray⟩),?_,?_⟩
   .have hn:¬((((⟨a.toArray⟩:ByteArray).size+(⟨b.toArray⟩:ByteArray).size:Nat):Int)>IntKind.i64.max):=by
     have e1:(⟨a.toArray⟩:ByteArray).size=a.length:=by simp[ByteArray.size]
     have e2:(⟨b.toArray⟩:ByteArray).size=b.length:=by simp[ByteArray.size]
     rw[e1,e2];have:IntKind.i64.max=9223372036854775807:=by decide
     omega
    simp only[binOp,Op.stringOp];rw[zO hn];rfl
   .simp only[RD]
    congr 1
  all_goals(obtain⟨_,rfl⟩:=h;exact lF (by simp[binOp,Op.stringOp]) rfl)
 .cases h
def unD(op:UnOp):D->Option (Bool×D)
 | .b x=>match op with
  | .not=>some (true,.b (!x))
  |_=>none
 | .i k n=>match op with
  | .neg=>some (Ho k (0-n),.i k (Hv k (0-n)))
  | .xor=>some (true,.i k (Cx .xor k (if k.signed then -1 else k.max) n))
  |_=>none
 | .f k n=>match op with
  | .neg=>some (true,.f k (Op.negFloat k n))
  |_=>none
 |_=>none
theorem vN{op:UnOp}{a:D}{r:D}(h:unD op a=some (c,r))(hc:c=true){x:Value}(ha:RD m a x)(w:World):
  ∃v,(Op.unary op x).run P w= .ok v w/\RD m r v:=by
 subst hc;cases a<;>simp only[unD,reduceCtorEq]at h
 .simp only[RD]at ha;subst ha;cases op<;>simp only[yh,zL,reduceCtorEq]at h;obtain⟨_,rfl⟩:=h;exact lF (by simp[Op.unary]) rfl
 .rename_i k n;simp only[RD]at ha;subst ha;cases op<;>simp only[yh,zL,reduceCtorEq]at h
  .obtain⟨hf,rfl⟩:=h;exact JW (n':=k.wrap (0-n)) (by simp[Op.unary,Op.intArith]) (Jq hf)
  .obtain⟨_,rfl⟩:=h;exact JW (n':=Cx .xor k (if k.signed then -1 else k.max) n) (by simp[Op.unary,Op.intBits,Cx]) rfl
 .rename_i k n;simp only[RD]at ha;subst ha;cases op<;>simp only[yh,zL,reduceCtorEq]at h;obtain⟨_,rfl⟩:=h;exact⟨.float k (Op.negFloat k n),by simp[Op.unary],by simp[RD]⟩
variable {G:Gh}{b:Nat}
theorem IX(h:B9 G w){k:Nat}{v:Value}(hm:G.m b k=some v):b<w.heap.size:=
 World.block_lt_of_cell? w ⟨b,k,none⟩ (h.mem b k v hm)
theorem BR.QH{G':Gh}{w':World}(hg:Iq G G'){id:Nat}{blk:AF}(hb:BR G w id blk)(hw:∀b N,blk.live=true->G.ρ id=some (b,N)->w'.heap[b]? =w.heap[b]?)(hρ:G'.ρ id=G.ρ id)(hw2:∀rs,blk= .many rs->∀b,b∈rS rs->w'.heap[b]? =w.heap[b]?:=by intros;rfl):BR G' w' id blk:=by
 cases blk with
 |gone=>trivial
 |c cs=>
  obtain⟨b,N,vs,T,h1,h2,h3,h4,h5⟩:=hb;exact⟨b,N,vs,T,hρ.trans h1,(hw b N rfl h1).trans h2,h3,h4,fun k x hx=>let⟨v,hv,hr⟩:=h5 k x hx;⟨v,hv,hr.mono hg⟩⟩
 |a x=>
  obtain⟨h1,h2,h3⟩:=hb;refine⟨h1,h2,h3.imp (fun h=>⟨h.1,hρ.trans h.2⟩) ?_⟩;rintro⟨b,N,vs,T,h1,h2,h3,h5⟩;exact⟨b,N,vs,T,hρ.trans h1,(hw b N rfl h1).trans h2,h3,fun k x hx=>let⟨v,hv,h1c,hr⟩:=h5 k x hx;⟨v,hv,h1c,hr.mono hg.mem⟩⟩
 |m es=>
  obtain⟨b,N,ms,cl,h1,h2,h3,h4⟩:=hb;exact⟨b,N,ms,cl,hρ.trans h1,(hw b N rfl h1).trans h2,h3,fun k q hq=>let⟨e,he,hd,hr⟩:=h4 k q hq;⟨e,he,hd.mono hg.mem,hr.mono hg⟩⟩
 |lp r=>
  obtain⟨l,N,df,tmps,h1,h2,h3,h4⟩:=hb;exact⟨l,N,df,tmps,hρ.trans h1,(hw l N rfl h1).trans h2,h3,h4.mono hg⟩
 |HW b N l=>
  obtain⟨vs,T,h1,h2,h3⟩:=hb;exact⟨vs,T,hρ.trans h1,(hw b N rfl h1).trans h2,h3⟩
 |many rs=>
  intro b N l hm;obtain⟨vs,T,h2,h3⟩:=hb b N l hm;exact⟨vs,T,(hw2 rs rfl b (Wb.2 ⟨N,l,hm⟩)).trans h2,h3⟩
theorem K8{w':World}(h:B9 G w)(hos:w'.os=w.os)(htp:w'.tape=w.tape)(hout:w'.output=w.output)(hsz:w.heap.size<=w'.heap.size)(hb:∀b,b<w.heap.size->w'.heap[b]? =w.heap[b]?)(m':Mem)(hm:G.m.le m')(hm':∀b k v,m' b k=some v->G.m b k=some v\/w.heap.size<=b)(hc:∀b k v,m' b k=some v->w'.cell? ⟨b,k,none⟩=some v):
  B9 {G with m:=m'} w'/\D4 G w {G with m:=m'} w':=by
 have hg:Iq G {G with m:=m'}:=⟨fun id b hb=>⟨b,hb,by cases b<;>simp[Ap]⟩,hm⟩;have hown:∀b,Own {G with m:=m'} b->Own G b:=fun b h=>h
 refine⟨⟨fun id b hb'=>(h.blk id b hb').QH hg ?_ rfl (fun rs e c hc=>hb c (Bq h (.inr ⟨id,rs,by rw[<-e];exact hb',hc⟩))),h.inj,hc,?_,fun b k v hv=>hm b k v (h.st b k v hv),h.mny⟩,⟨hos,htp,hout,hsz,fun b hb' ho=>⟨hb b hb',ho⟩,?_,hg⟩⟩
 .intro q N hl hq;exact hb q (Bq h (.inl ⟨id,N,b,hb',hl,hq⟩))
 .intro b ho k;show m' b k=none
  cases hv:m' b k with
  |none=>rfl
  |some v=>
   rcases hm' b k v hv with h1|h1
   .rw[h.sep b ho k]at h1;cases h1
   .have:=Bq h ho;omega
 .intro b k v hv;rcases hm' b k v hv with h1|h1
  .exact .inl h1
  .exact .inr (.inr h1)
theorem Qo(h:B9 G w)(n:Nat):B9 G {w with drawn:=n}/\D4 G w G {w with drawn:=n}:=
 K8 (w':={w with drawn:=n}) h rfl rfl rfl (yV _) (fun _ _=>rfl) G.m (Mem.le_refl _) (fun _ _ _ h=> .inl h) (fun b k v hv=>h.mem b k v hv)
def Gh.lay(G:Gh)(b0:Nat)(cs:y6):Gh:={G with m:=fun b k=>if b=b0 then cs[k]? else G.m b k}
theorem WQ(h:B9 G w)(cur:yd)(T:TypeId)(fr:Nat×Nat)(cs:y6)(hcs:∀(k:Nat)(v:Value),cs[k]? =some v->cur[k]? =some v):
  B9 (G.lay w.heap.size cs) (w.alloc (.cells cur T fr))/\D4 G w (G.lay w.heap.size cs) (w.alloc (.cells cur T fr)):=by
 refine K8 (w':=w.alloc (.cells cur T fr)) h rfl rfl rfl sm (fun b hb=>q1U w _ b hb) _ ?_ ?_ ?_
 .intro b k v hv;have:=IX h hv;simp only[Gh.lay];rw[zO om];exact hv
 .intro b k v hv;have hv:(if b=w.heap.size then cs[k]? else G.m b k)=some v:=hv;split at hv
  .exact .inr om
  .exact .inl hv
 .intro b k v hv;have hv:(if b=w.heap.size then cs[k]? else G.m b k)=some v:=hv;split at hv
  .rename_i hb;subst hb;simp only[World.cell?,World.alloc,Array.getElem?_push_size];simpa using hcs k v (by simpa using hv)
  .have:=IX h hv;rw[World.cell?_alloc_lt _ _ _ (by exact this)];exact h.mem b k v hv
def Yields(P:Program)(G:Gh)(w:World)(s:Sem Value)(y:AV):Prop:=
 ∃u w' G',s.run P w= .ok u w'/\RV G' y u/\G'.H=G.H/\B9 G' w'/\D4 G w G' w'
theorem Yields.still{y:AV}(hr:B9 G w){u:Value}(h:s.run P w= .ok u w)(hy:RV G y u):Yields P G w s y:=
 ⟨u,w,G,h,hy,rfl,hr,D4.refl G w⟩
def He:yq->Option (yo)
 |[]=>some []
 |x::r=>match x,He r with
  | .d y,some l=>some (y::l)
  |_,_=>none
def mkV(agg:Bool)(cs:yq):yv:=
 match agg with
 |true=>match He cs with
  |some ds=>some (.d (.agg ds))
  |none=>some (.ag cs)
 |false=>match cs with
  |[x]=>some x
  |_=>none
def Mv{α:Type}:Nat->List α->Option (List α)
 |0,_=>some []
 |n+1,x::r=>match Mv n r with
  |some l=>some (x::l)
  |none=>none
 |_+1,[]=>none
def JV{α:Type}:Nat->List α->List α
 |0,l=>l
 |n+1,_::r=>JV n r
 |_+1,[]=>[]
theorem Jn{α:Type}:∀{n:Nat}{l r:List α},Mv n l=some r->r=l.take n/\r.length=n
 |0,l,r,h=>by simp[Mv]at h;subst h;simp
 |n+1,x::l,r,h=>by
  simp only[Mv]at h;split at h
  .rename_i q hq;cases h;obtain⟨h1,h2⟩:=Jn hq;simp[<-h1,h2]
  .cases h
 |n+1,[],r,h=>by simp[Mv]at h
theorem GI{α:Type}:∀{n:Nat}{l:List α},JV n l=l.drop n
 |0,l=>by simp[JV]
 |n+1,x::l=>by simp[JV,GI (n:=n) (l:=l)]
 |n+1,[]=>by simp[JV]
theorem cz{cs:yq}{ds:yo}(h:He cs=some ds):cs=ds.map .d:=by
 induction cs generalizing ds with
 |nil=>simp[He]at h;subst h;rfl
 |cons x r ih=>
  simp only[He]at h;split at h
  .rename_i y l hl;cases h;simp[ih hl]
  .cases h
theorem Q5{G:Gh}:∀{ds:yo}{vs:y6},BP G (ds.map .d) vs↔Eb G.m ds vs
 |[],vs=>by simp[BP,Eb]
 |d::ds,vs=>by
  simp only[zV,BP,Eb,RV];constructor
  .rintro⟨v,r,h1,h2,h3⟩;exact⟨v,r,h1,h2,Q5.1 h3⟩
  .rintro⟨v,r,h1,h2,h3⟩;exact⟨v,r,h1,h2,Q5.2 h3⟩
theorem Dn{G:Gh}:∀{xs:yq}{vs:y6},BP G xs vs↔vs.length=xs.length/\∀(k:Nat)(x:AV),xs[k]? =some x->∃v,vs[k]? =some v/\RV G x v
 |[],vs=>by simp[BP]
 |x::xs,vs=>by
  simp only[BP];constructor
  .rintro⟨v,r,rfl,h2,h3⟩;obtain⟨h4,h5⟩:=Dn.1 h3;refine⟨by simp[h4],fun k y hy=> ?_⟩
   cases k with
   |zero=>simp at hy;subst hy;exact⟨v,sm,h2⟩
   |succ k=>simpa using h5 k y (by simpa using hy)
  .rintro⟨h1,h2⟩
   cases vs with
   |nil=>simp at h1
   |cons v r=>
    obtain⟨u,hu,hr⟩:=h2 0 x sm;simp at hu;subst hu;exact⟨v,r,rfl,hr,Dn.2 ⟨by simpa using h1,fun k y hy=>by simpa using h2 (k+1) y (by simpa using hy)⟩⟩
theorem FA{m:Mem}:∀{xs:yo}{vs:y6},Eb m xs vs↔vs.length=xs.length/\∀(k:Nat)(x:D),xs[k]? =some x->∃v,vs[k]? =some v/\RD m x v
 |[],vs=>by simp[Eb]
 |x::xs,vs=>by
  simp only[Eb];constructor
  .rintro⟨v,r,rfl,h2,h3⟩;obtain⟨h4,h5⟩:=FA.1 h3;refine⟨by simp[h4],fun k y hy=> ?_⟩
   cases k with
   |zero=>simp at hy;subst hy;exact⟨v,sm,h2⟩
   |succ k=>simpa using h5 k y (by simpa using hy)
  .rintro⟨h1,h2⟩
   cases vs with
   |nil=>simp at h1
   |cons v r=>
    obtain⟨u,hu,hr⟩:=h2 0 x sm;simp at hu;subst hu;exact⟨v,r,rfl,hr,FA.2 ⟨by simpa using h1,fun k y hy=>by simpa using h2 (k+1) y (by simpa using hy)⟩⟩
variable {vs:y6}
theorem WX{agg:Bool}{cs:yq}{y:AV}(h:mkV agg cs=some y)(hv:BP G cs vs):
  ∃u:Value,(if agg then u= .agg vs.toArray else vs=[u])/\RV G y u:=by
 unfold mkV at h;split at h
 .split at h
  .rename_i ds hd;cases h;refine⟨.agg vs.toArray,sm,?_⟩;rw[cz hd,Q5]at hv;simp only[RV,RD];exact⟨vs,rfl,hv⟩
  .cases h;exact⟨.agg vs.toArray,sm,by simp only[RV];exact⟨vs,rfl,hv⟩⟩
 .split at h
  .cases h;simp only[BP]at hv;obtain⟨v,r,rfl,h2,rfl⟩:=hv;exact⟨v,sm,h2⟩
  .cases h
theorem D9(hy:Gp P t=some y){off:Nat}(hl:vs.length=y.size)(hc:∀(k:Nat)(v:Value),vs[k]? =some v->w.cell? ⟨b,off+k,none⟩=some v){u:Value}(hu:if y.agg then u= .agg vs.toArray else vs=[u]):
  (loadVar t ⟨b,off,none⟩).run P w= .ok u w:=by
 have hadd:∀k,(⟨b,off,none⟩:Addr).add k=⟨b,off+k,none⟩:=fun k=>by unfold Addr.add;split<;>simp_all
 simp only[loadVar,zf,Oe hy,zQ]
 cases ha:y.agg with
 |true=>
  rw[ha]at hu;simp only[zx]at hu;have h1:=run_loadCells_list (P:=P) w ⟨b,off,none⟩ vs (fun k v hv=>by rw[hadd];exact hc k v hv);simp only[zx,zf,BV hy,zQ,<-hl,h1,zk,hu]
 |false=>
  rw[ha]at hu;simp at hu;subst hu;have h1:=hc 0 u sm;simp at h1;simp[h1]
def TJ:yz->Nat->Option (Nat×Nat×Nat×AT)
 |[],_=>none
 | .HW b N l::_,i=>some (i,b,N,l)
 |_::r,i=>TJ r (i+1)
theorem Pe:∀{H:yz}{i id b N:Nat}{l:AT},TJ H i=some (id,b,N,l)->∃k,id=i+k/\H[k]? =some (.HW b N l)
 |[],i,id,b,N,l,h=>by simp[TJ]at h
 |x::r,i,id,b,N,l,h=>by
  have go:TJ r (i+1)=some (id,b,N,l)->∃k,id=i+k/\(x::r)[k]? =some (.HW b N l):=fun h=>by
   obtain⟨k,h1,h2⟩:=Pe h;exact⟨k+1,om,by simpa using h2⟩
  cases x with
  |HW b' N' l'=>simp only[TJ,yh,zL]at h;obtain⟨rfl,rfl,rfl,rfl⟩:=h;exact⟨0,rfl,rfl⟩
  |_=>exact go h
def W2(E:Nat->Option Bd)(H:yz)(t:Nat)(a:AV):yy:=
 match E t with
 |none=>none
 |some y=>match a with
  | .ptr id off _=>match H[id]? with
   |some (.c cs)=>match Mv y.size (JV off cs)with
    |some l=>match mkV y.agg l with
     |some v=>some (true,v)
     |none=>none
    |none=>none
   |_=>none
  | .dp cs=>match y.agg with
   |true=>match Mv y.size cs with
    |some l=>some (true,.d (.agg l))
    |none=>none
   |false=>match cs with
    |d::_=>some (Nat.beq y.size 1,.d d)
    |[]=>none
  | .ep id i off n sz=>match H[id]? with
   |some (.a x)=>match y.agg with
    |true=>some (Nat.beq n (B3 x)&&Nat.beq (Bt x) sz&&decide (i<n)&&decide (off+y.size<=sz),.d (.agg (((slc x).drop (i*sz+off)).take y.size)))
    |false=>some (Nat.beq n (B3 x)&&Nat.beq (Bt x) sz&&decide (i<n)&&Nat.beq y.size 1&&decide (off<sz),.d ((slc x).getD (i*sz+off) .np))
   |_=>none
  | .d (.raw (.pointer (some ⟨b,k,none⟩)))=>match TJ H 0 with
   |some (_,b',_,l)=>some (Nat.beq b b'&&decide (k<l.length)&&Nat.beq y.size 1&& !y.agg,.d (.i .u8 ((l.getD k 0).toNat:Int)))
   |none=>none
  |_=>none
theorem addr_add(b off k:Nat):(⟨b,off,none⟩:Addr).add k=⟨b,off+k,none⟩:=by unfold Addr.add;split<;>simp_all
theorem DT{k:Nat}{vs:yd}{T:TypeId}{fr:Nat×Nat}(h:w.heap[b]? =some (.cells vs T fr)):w.cell? ⟨b,k,none⟩=vs[k]?:=cell_of_row w b k vs T fr h
theorem Oo{α:Type}{R:α->Value->Prop}{vs:yd}(off:Nat):∀(cs:List α),(∀(k:Nat)(x:α),cs[k]? =some x->∃v,vs[off+k]? =some v/\R x v)->
  ∃us:y6,us.length=cs.length/\(∀(k:Nat)(v:Value),us[k]? =some v->vs[off+k]? =some v)/\∀(k:Nat)(x:α),cs[k]? =some x->∃v,us[k]? =some v/\R x v:=by
 intro cs h;refine⟨(List.range cs.length).map fun k=>(vs[off+k]?).getD undef,sm,?_,?_⟩
 .intro k v hv;simp only[q03,q0B]at hv;obtain⟨j,hj,rfl⟩:=hv
  have hlt:k<cs.length:=by
   rcases q0A k cs.length with h1|h1
   .exact h1
   .rw[q0R (by simpa using h1)]at hj;cases hj
  rw[List.getElem?_range hlt]at hj;cases hj;obtain⟨u,hu,_⟩:=h k cs[k] (yj hlt);simp[hu]
 .intro k x hx;obtain⟨u,hu,hr⟩:=h k x hx;have hlt:k<cs.length:=(yZ.1 hx).1;exact⟨u,by simp[List.getElem?_range hlt,hu],hr⟩
theorem KE{α:Type}{l r:List α}{off n:Nat}(hr:r=(l.drop off).take n):∀(k:Nat)(x:α),r[k]? =some x->l[off+k]? =some x:=by
 intro k x hx;rw[hr,q0T]at hx;split at hx
 .rwa [q0Y]at hx
 .cases hx
theorem Ud{E:Nat->Option Bd}(hE:CV P E)(hr:B9 G w){x y:AV}(h:W2 E G.H t x=some (c,y))(hc:c=true){v:Value}(hx:RV G x v):
  ∃u,(Instr.loadAt t v).run P w= .ok u w/\RV G y u:=by
 subst hc;unfold W2 at h;split at h
 .cases h
 .rename_i ty hty;have hy:=hE t ty hty;split at h
  .rename_i id off cnt;split at h
   .rename_i cs hcs;split at h
    .rename_i l hl;split at h
     .rename_i z hz;cases h;simp only[RV]at hx;obtain⟨_,blk,hb,hp⟩:=hx;rw[hcs]at hb;cases hb;obtain⟨hcnt,b,n,hρ,rfl⟩:=hp;obtain⟨b',N,vs,T,hρ',hw,hN,hle,hcell⟩:=hr.blk id _ hcs;rw[hρ]at hρ';cases hρ';obtain⟨h1,h2⟩:=Jn hl;rw[GI]at h1;have hsub:=KE h1;obtain⟨us,u1,u2,u3⟩:=Oo (R:=RV G) (vs:=vs) off l (fun k x hx=>hcell (off+k) x (hsub k x hx));have hus:BP G l us:=Dn.2 ⟨u1,u3⟩;obtain⟨u,hu,hru⟩:=WX hz hus;refine⟨u,?_,hru⟩;simp only[Instr.loadAt,Instr.sureAddr,zf,zk,zQ];exact D9 hy (by rw[u1,h2]) (fun k q hq=>by rw[DT hw];exact u2 k q hq) hu
     .cases h
    .cases h
   .cases h
  .rename_i cs;simp only[RV]at hx;obtain⟨b,off,rfl,hcell⟩:=hx;rw[Hw]at hcell
   have hcl:∀(k:Nat)(d:D),cs[k]? =some d->∃u,w.cell? ⟨b,off+k,none⟩=some u/\RD G.m d u:=fun k d hd=>by
    obtain⟨u,hu,_,hd'⟩:=hcell k d hd;exact⟨u,hr.mem _ _ _ hu,hd'⟩
   split at h
   .rename_i hagg;split at h
    .rename_i l hl;cases h;obtain⟨h1,h2⟩:=Jn hl
     have hsub:∀(k:Nat)(d:D),l[k]? =some d->∃u,w.cell? ⟨b,off+k,none⟩=some u/\RD G.m d u:=fun k d hd=>by
      rw[h1,q0T]at hd;split at hd
      .exact hcl k d hd
      .cases hd
     have hlen:∃us:y6,us.length=l.length/\(∀(k:Nat)(v:Value),us[k]? =some v->w.cell? ⟨b,off+k,none⟩=some v)/\∀(k:Nat)(d:D),l[k]? =some d->∃v,us[k]? =some v/\RD G.m d v:=by
      have:∃vs:yd,∀(k:Nat),k<l.length->vs[off+k]? =w.cell? ⟨b,off+k,none⟩:=
       ⟨((List.range (off+l.length)).map fun k=>(w.cell? ⟨b,k,none⟩).getD undef).toArray,fun k hk=>by
        obtain⟨u,hu,_⟩:=hsub k l[k] (yj hk)
        simp[List.getElem?_range (by omega:off+k<off+l.length),hu]⟩
      obtain⟨vs,hvs⟩:=this
      obtain⟨us,u1,u2,u3⟩:=Oo (R:=RD G.m) (vs:=vs) off l (fun k d hd=>by
       have hk:k<l.length:=(yZ.1 hd).1;obtain⟨u,hu,hd'⟩:=hsub k d hd
       exact⟨u,by rw[hvs k hk];exact hu,hd'⟩)
      refine⟨us,u1,fun k v hv=> ?_,u3⟩;have hk:k<l.length:=by rw[<-u1];exact(yZ.1 hv).1
      rw[<-hvs k hk];exact u2 k v hv
     obtain⟨us,u1,u2,u3⟩:=hlen;refine⟨.agg us.toArray,?_,by simp only[RV,RD];exact⟨us,rfl,FA.2 ⟨u1,u3⟩⟩⟩;simp only[Instr.loadAt,Instr.sureAddr,zf,zk,zQ];exact D9 hy (by rw[u1,h2]) u2 (by simp[hagg])
    .cases h
   .rename_i hagg;split at h
    .rename_i d rest;simp only[yh,zL]at h;obtain⟨hsz,rfl⟩:=h;have hsz:=zH hsz;obtain⟨u,hu,hd⟩:=hcl 0 d sm;refine⟨u,?_,by simpa only[RV]using hd⟩;simp only[Instr.loadAt,Instr.sureAddr,zf,zk,zQ];refine D9 hy (vs:=[u]) (by simp[hsz]) (fun k q hq=> ?_) (by simp[hagg])
     cases k with
     |zero=>simp at hq;subst hq;exact hu
     |succ k=>simp at hq
    .cases h
  .rename_i id i off n sz;split at h
   .rename_i x hx';simp only[RV]at hx;obtain⟨_,blk,hb,hp⟩:=hx;rw[hx']at hb;cases hb;obtain⟨hs1,hs2,hp⟩:=hp;obtain⟨g1,g2,g3⟩:=hr.blk id _ hx';have hlen:=Gv g1 g2;split at h
    .rename_i hagg;simp only[yh,zL,yU,yc]at h;obtain⟨⟨⟨⟨e1,e2⟩,e3⟩,e4⟩,rfl⟩:=h;have e1:=zH e1;obtain⟨b,N,hρ,rfl⟩:=hp e1;rcases g3 with⟨g3,_⟩|⟨b',N',vs,T,hρ',hw,hN,hcell⟩
     .omega
     .rw[hρ]at hρ';cases hρ'
      have hbound:i*sz+off+ty.size<=(slc x).length:=by
       rw[hlen,hs1];have:(i+1)*sz<=B3 x*sz:=q1b _ om;rw[q0i]at this;omega
      have hsub:=KE (l:=slc x) (off:=i*sz+off) (n:=ty.size) rfl;obtain⟨us,u1,u2,u3⟩:=Oo (R:=RD G.m) (vs:=vs) (i*sz+off) _ (fun k d hd=>let⟨u,hu,_,h2⟩:=hcell _ d (hsub k d hd);⟨u,hu,h2⟩);refine⟨.agg us.toArray,?_,by simp only[RV,RD];exact⟨us,rfl,FA.2 ⟨u1,u3⟩⟩⟩;simp only[Instr.loadAt,Instr.sureAddr,zf,zk,zQ];refine D9 hy (by rw[u1];simp;omega) (fun k q hq=>by rw[DT hw];exact u2 k q hq) (by simp[hagg])
    .rename_i hagg;simp only[yh,zL,yU,yc]at h;obtain⟨⟨⟨⟨⟨e1,e2⟩,e3⟩,e4⟩,e5⟩,rfl⟩:=h;have e1:=zH e1;have e4:=zH e4;obtain⟨b,N,hρ,rfl⟩:=hp e1;rcases g3 with⟨g3,_⟩|⟨b',N',vs,T,hρ',hw,hN,hcell⟩
     .omega
     .rw[hρ]at hρ';cases hρ'
      have hbound:i*sz+off<(slc x).length:=by
       rw[hlen,hs1];have:(i+1)*sz<=B3 x*sz:=q1b _ om;rw[q0i]at this;omega
      have hget:(slc x)[i*sz+off]? =some ((slc x).getD (i*sz+off) .np):=by
       simp[yj hbound]
      obtain⟨u,hu,_,hd⟩:=hcell _ _ hget;refine⟨u,?_,by simpa only[RV]using hd⟩;simp only[Instr.loadAt,Instr.sureAddr,zf,zk,zQ];refine D9 hy (vs:=[u]) (by simp[e4]) (fun k q hq=> ?_) (by simp[hagg])
      cases k with
      |zero=>simp at hq;subst hq;rw[DT hw];exact hu
      |succ k=>simp at hq
   .cases h
  .rename_i b k;split at h
   .rename_i id b' N l ho;simp only[yh,zL,yU,yc,q0H]at h;obtain⟨⟨⟨⟨e1,e2⟩,e3⟩,e4⟩,rfl⟩:=h;have e1:=zH e1;have e3:=zH e3;subst e1;obtain⟨j,hj,hb⟩:=Pe ho;obtain⟨vs,T,hρ,hw,hN,hle,hcell⟩:=hr.blk j _ hb;simp only[RV,RD]at hx;rw[hx.1];have hget:l[k]? =some (l.getD k 0):=by simp[yj e2]
    refine⟨.int .u8 ((l.getD k 0).toNat:Int),?_,by simp only[RV,RD]⟩;simp only[Instr.loadAt,Instr.sureAddr,zf,zk,zQ];refine D9 hy (vs:=[.int .u8 ((l.getD k 0).toNat:Int)]) (by simp[e3]) (fun q v hq=> ?_) (by simp[e4])
    cases q with
    |zero=>simp at hq;subst hq;rw[DT hw];simpa using hcell k _ hget
    |succ q=>simp at hq
   .cases h
  .cases h
end Go.Gar
namespace Go.Gar
variable {f off:Nat}
theorem LH{q:Array Field}{ft:Nat}(h:(q.toList.map fun f=>(f.offset,f.type))[f]? =some (off,ft)):∃x,q[f]? =some x/\x.offset=off/\x.type=ft:=by
 simp only[q03,q0B,zL]at h;obtain⟨x,hx,h1,h2⟩:=h;exact⟨x,by simpa using hx,h1,h2⟩
def LA(E:Nat->Option Bd)(H:yz)(s:Nat)(a:AV)(f:Nat):yy:=
 match E s with
 |none=>none
 |some y=>match y.k with
  | .st fs=>match fs[f]? with
   |some (off,ft)=>match E ft with
    |some z=>match a with
     | .ptr id o cnt=>match H[id]? with
      |some (.c _)=>some (!(Nat.beq z.size 0),.ptr id (o+off) cnt)
      |_=>none
     | .dp cs=>some (!(Nat.beq z.size 0),.dp (JV off cs))
     | .ep id i o n sz=>match H[id]? with
      |some (.a q)=>some (!(Nat.beq z.size 0)&&Nat.beq n (B3 q),.ep id i (o+off) n sz)
      |_=>none
     |_=>none
    |none=>none
   |none=>none
  |_=>none
theorem XK{m:Mem}{cs:yo}{b n:Nat}(h:N5 m cs b off):N5 m (cs.drop n) b (off+n):=by
 rw[Hw]at h|-;intro k d hd;rw[q0Y]at hd;have:=h _ d hd;rwa [show off+n+k=off+(n+k)by omega]
variable {P:Program}{E:Nat->Option Bd}{G:Gh}{w:World}{x y:AV}{c:Bool}{v:Value}
theorem SN(hE:CV P E){s:Nat}(h:LA E G.H s x f=some (c,y))(hc:c=true)(hx:RV G x v):∃u,(Instr.fieldAt s v f).run P w= .ok u w/\RV G y u:=by
 subst hc;unfold LA at h;split at h
 .cases h
 .rename_i ty hty;obtain⟨d,hd,hk,_⟩:=As (hE s ty hty) w;split at h
  .rename_i fs hfs;rw[hfs]at hk;obtain⟨q,rfl,rfl⟩:=Pa hk;split at h
   .rename_i off ft hf;obtain⟨fl,hfl,rfl,rfl⟩:=LH hf;split at h
    .rename_i z hz;have hsz:=BV (hE _ z hz) w
     have key:∀a:Addr,(!(Nat.beq z.size 0))=true->(Instr.fieldAt s (.pointer (some a)) f).run P w= .ok (.pointer (some (a.add fl.offset))) w:=by
      intro a hne
      have hne:z.size≠0:=by
       intro e;rw[e]at hne;exact absurd hne (by decide)
      simp only[Instr.fieldAt,zf,hd,zQ,hfl,Instr.sureAddr,zk,fieldPlace,hsz,zO hne]
     split at h
     .rename_i id o cnt;split at h
      .rename_i cs hcs;simp only[yh,zL]at h;obtain⟨hne,rfl⟩:=h;simp only[RV]at hx|-;obtain⟨_,blk,hb,hp⟩:=hx;rw[hcs]at hb;cases hb;obtain⟨h1,b,n,h2,rfl⟩:=hp;exact⟨_,key _ hne,rfl,_,hcs,h1,b,n,h2,by rw[addr_add]⟩
      .cases h
     .rename_i cs;simp only[yh,zL]at h;obtain⟨hne,rfl⟩:=h;simp only[RV]at hx|-;obtain⟨b,o,rfl,hp⟩:=hx;exact⟨_,key _ hne,b,o+fl.offset,by rw[addr_add],by rw[GI];exact XK hp⟩
     .rename_i id i o n sz;split at h
      .rename_i q hq;simp only[yh,zL,yU]at h;obtain⟨⟨hne,hn⟩,rfl⟩:=h;simp only[RV]at hx|-;obtain⟨_,blk,hb,hp⟩:=hx;rw[hq]at hb;cases hb;obtain⟨h1,h2,h4⟩:=hp;obtain⟨b,N,h5,rfl⟩:=h4 (zH hn);exact⟨_,key _ hne,rfl,_,hq,h1,h2,fun _=>⟨b,N,h5,by rw[addr_add];congr 3;omega⟩⟩
      .cases h
     .cases h
    .cases h
   .cases h
  .cases h
def aK(y:Bd)(x:AV)(off:Nat):yy:=
 match x with
 | .d (.agg cs)=>match y.agg with
  |true=>match Mv y.size (JV off cs)with
   |some l=>some (true,.d (.agg l))
   |none=>none
  |false=>match JV off cs with
   |d::_=>some (true,.d d)
   |[]=>none
 | .ag cs=>match y.agg with
  |true=>match Mv y.size (JV off cs)with
   |some l=>match mkV true l with
    |some v=>some (true,v)
    |none=>none
   |none=>none
  |false=>match JV off cs with
   |d::_=>some (true,d)
   |[]=>none
 |_=>none
variable {t:Nat}
theorem Of{y:Bd}(hy:Gp P t=some y)(w:World)(vs:yd)(off:Nat):
  (part t vs off).run P w=if y.agg then .ok (.agg (vs.extract off (off+y.size))) w else match vs[off]? with|some v=> .ok v w|none=> .halt (.stuck "part: no such cell") w:=by
 simp only[part,zf,Oe hy,zQ]
 cases y.agg with
 |true=>simp[BV hy]
 |false=>
  simp only[q0F,zo];cases vs[off]? <;>rfl
theorem extract_eq{α:Type}(vs:List α)(off n:Nat):vs.toArray.extract off (off+n)=((vs.drop off).take n).toArray:=by
 simp[List.extract_eq_take_drop]
theorem fY{ty:Bd}(hy:Gp P t=some ty)(h:aK ty x off=some (c,y))(hx:RV G x v):
  ∃vs:yd,v= .agg vs/\∃u,(part t vs off).run P w= .ok u w/\RV G y u:=by
 unfold aK at h;split at h
 .rename_i cs;simp only[RV,RD]at hx;obtain⟨vs,rfl,hvs⟩:=hx;refine⟨_,rfl,?_⟩;rw[Of hy];rw[FA]at hvs;split at h
  .rename_i hagg;split at h
   .rename_i l hl;cases h;obtain⟨h1,h2⟩:=Jn hl;rw[GI]at h1;have hsub:=KE h1;refine⟨_,by simp only[hagg,zx];rfl,?_⟩;simp only[RV,RD];refine⟨_,by rw[extract_eq],?_⟩;rw[FA];refine⟨?_,fun k d hd=> ?_⟩
    .rw[h1];simp[hvs.1]
    .obtain⟨u,hu,hr⟩:=hvs.2 _ d (hsub k d hd);have hk:k<ty.size:=by rw[<-h2];exact(yZ.1 hd).1
     exact⟨u,by rw[q0T,zN hk,q0Y];exact hu,hr⟩
   .cases h
  .rename_i hagg;split at h
   .rename_i d rest hd;cases h;rw[GI]at hd
    have:cs[off]? =some d:=by
     have:=congrArg (·[0]?) hd;simpa using this
    obtain⟨u,hu,hr⟩:=hvs.2 _ d this;exact⟨u,by simp[hagg,hu],by simpa only[RV]using hr⟩
   .cases h
 .rename_i cs;simp only[RV]at hx;obtain⟨vs,rfl,hvs⟩:=hx;refine⟨_,rfl,?_⟩;rw[Of hy];rw[Dn]at hvs;split at h
  .rename_i hagg;split at h
   .rename_i l hl;split at h
    .rename_i z hz;cases h;obtain⟨h1,h2⟩:=Jn hl;rw[GI]at h1;have hsub:=KE h1
     have hvl:BP G l ((vs.drop off).take ty.size):=by
      rw[Dn];refine⟨?_,fun k d hd=> ?_⟩
      .rw[h1];simp[hvs.1]
      .obtain⟨u,hu,hr⟩:=hvs.2 _ d (hsub k d hd);have hk:k<ty.size:=by rw[<-h2];exact(yZ.1 hd).1
       exact⟨u,by rw[q0T,zN hk,q0Y];exact hu,hr⟩
     obtain⟨u,hu,hru⟩:=WX hz hvl;simp only[zx]at hu;subst hu;exact⟨_,by simp only[hagg,zx];rw[extract_eq],hru⟩
    .cases h
   .cases h
  .rename_i hagg;split at h
   .rename_i d rest hd;rw[GI]at hd
    have:cs[off]? =some d:=by
     have:=congrArg (·[0]?) hd;simpa using this
    obtain⟨u,hu,hr⟩:=hvs.2 _ d this;cases h;exact⟨u,by simp[hagg,hu],hr⟩
   .cases h
 .cases h
def W0(E:Nat->Option Bd)(t:Nat)(x:AV)(f:Nat):yy:=
 match E t with
 |none=>none
 |some y=>match y.k with
  | .st fs=>match fs[f]? with
   |some (off,ft)=>match E ft with
    |some z=>aK z x off
    |none=>none
   |none=>none
  |_=>none
theorem aH(hE:CV P E)(h:W0 E t x f=some (c,y))(hx:RV G x v):
  ∃u,(Instr.field t v f).run P w= .ok u w/\RV G y u:=by
 unfold W0 at h;split at h
 .cases h
 .rename_i ty hty;obtain⟨d,hd,hk,_⟩:=As (hE t ty hty) w;split at h
  .rename_i fs hfs;rw[hfs]at hk;obtain⟨q,rfl,rfl⟩:=Pa hk;split at h
   .rename_i off ft hf;obtain⟨fl,hfl,rfl,rfl⟩:=LH hf;split at h
    .rename_i z hz;obtain⟨vs,rfl,u,hu,hr⟩:=fY (hE _ z hz) (w:=w) h hx;refine⟨u,?_,hr⟩;simp only[Instr.field,zf,hd,zQ,hfl,asAgg,zk,hu]
    .cases h
   .cases h
  .cases h
def PP(x:AV)(n:Nat):yy:=
 match x with
 | .tup cs=>match cs[n]? with
  |some y=>some (true,y)
  |none=>none
 | .d (.tup cs)=>match cs[n]? with
  |some y=>some (true,.d y)
  |none=>none
 |_=>none
theorem Vz{n:Nat}(h:PP x n=some (c,y))(hx:RV G x v):∃u,(Instr.extract v n).run P w= .ok u w/\RV G y u:=by
 unfold PP at h;split at h
 .rename_i cs;split at h
  .rename_i z hz;simp only[RV]at hx;obtain⟨vs,rfl,hvs⟩:=hx;obtain⟨u,hu,hr⟩:=(Dn.1 hvs).2 n z hz;cases h;exact⟨u,by simp[Instr.extract,hu],hr⟩
  .cases h
 .rename_i cs;split at h
  .rename_i z hz;cases h;simp only[RV,RD]at hx;obtain⟨vs,rfl,hvs⟩:=hx;obtain⟨u,hu,hr⟩:=(FA.1 hvs).2 n z hz;exact⟨u,by simp[Instr.extract,hu],by simpa only[RV]using hr⟩
  .cases h
 .cases h
end Go.Gar
namespace Go.Gar
def Um(n:Int)(len:Nat):Bool:=decide (0<=n)&&decide (n<(len:Int))
variable {len:Nat}
theorem Em{n:Int}:Um n len=true↔0<=n/\n<len:=by simp[Um]
def LB(E:Nat->Option Bd)(H:yz)(t:Nat)(x i:AV):yy:=
 match E t with
 |none=>none
 |some y=>match i with
  | .d (.i _ n)=>match y.k with
   | .sl e=>match E e with
    |none=>none
    |some z=>match x with
     | .d (.by l)=>some (Um n l.length&&Nat.beq z.size 1,.dp [.i .u8 ((l.getD n.toNat 0).toNat:Int)])
     | .d (.is l)=>some (Um n l.length&&Nat.beq z.size 1,.dp [.i .i64 (l.getD n.toNat 0)])
     | .d (.sl sz es)=>some (Um n es.length&&Nat.beq z.size sz,.dp (es.getD n.toNat []))
     | .d (.raw (.slice (some ⟨b,o,none⟩) len _))=>some (Um n len,.d (.raw (.pointer (some ⟨b,o+n.toNat*z.size,none⟩))))
     | .sl id len sz=>match H[id]? with
      |some (.a q)=>some (Nat.beq len (B3 q)&&Um n len&&Nat.beq z.size sz,.ep id n.toNat 0 len sz)
      |_=>none
     | .bs id off len sz cnt=>match H[id]? with
      |some (.c _)=>some (Um n len&&Nat.beq z.size sz,.ptr id (off+n.toNat*sz) cnt)
      |_=>none
     |_=>none
   | .arr len e=>match E e with
    |none=>none
    |some z=>match x with
     | .ptr id off cnt=>match H[id]? with
      |some (.c _)=>some (Um n len,.ptr id (off+n.toNat*z.size) cnt)
      |_=>none
     | .dp cs=>match Nat.beq z.size 1 with
      |true=>some (Um n len&&decide (n.toNat<cs.length),.dp [cs.getD n.toNat .np])
      |false=>some (Um n len,.dp (JV (n.toNat*z.size) cs))
     |_=>none
   |_=>none
  |_=>none
theorem cM{m:Mem}{sz b:Nat}:∀{es:List (yo)}{off:Nat},Vg m sz es b off->∀(k:Nat)(e:yo),es[k]? =some e->e.length=sz/\N5 m e b (off+k*sz)
 |[],off,_=>by simp
 |e::es,off,h=>by
  simp only[Vg]at h;intro k x hx
  cases k with
  |zero=>simp at hx;subst hx;simpa using⟨h.1,h.2.1⟩
  |succ k=>
   have:=cM h.2.2 k x (by simpa using hx);rwa [show off+sz+k*sz=off+(k+1)*sz by rw[q0i];omega]at this
variable {P:Program}{t e:Nat}{y z:Bd}{cap:Nat}{k:IntKind}
theorem EK(hy:Gp P t=some y)(hk:y.k= .sl e)(hz:Gp P e=some z)(w:World){a:Addr}{n:Int}(h0:0<=n)(h1:n<len):
  (Instr.indexAt t (.slice (some a) len cap) (.int k n)).run P w= .ok (.pointer (some (a.add (n.toNat*z.size)))) w:=by
 obtain⟨d,hd,hk',_⟩:=As hy w;rw[hk]at hk';have hk':=Eh hk';subst hk';simp only[Instr.indexAt,asIntOf,zf,zk,zQ,hd,zN (yg h0 h1),Sem.run_ite,BV hz]
theorem Hl(hy:Gp P t=some y)(hk:y.k= .arr len e)(hz:Gp P e=some z)(w:World){a:Addr}{n:Int}(h0:0<=n)(h1:n<len):
  (Instr.indexAt t (.pointer (some a)) (.int k n)).run P w= .ok (.pointer (some (a.add (n.toNat*z.size)))) w:=by
 obtain⟨d,hd,hk',_⟩:=As hy w;rw[hk]at hk';have hk':=Iz hk';subst hk';simp only[Instr.indexAt,asIntOf,Instr.sureAddr,zf,zk,zQ,hd,zN (yg h0 h1),Sem.run_ite,BV hz]
theorem NF{α:Type}{l:List α}{n:Int}{d:α}(h0:0<=n)(h1:n<l.length):l[n.toNat]? =some (l.getD n.toNat d):=by
 have:n.toNat<l.length:=om
 simp[yj this]
variable {E:Nat->Option Bd}{G:Gh}{w:World}{x:AV}{c:Bool}{v:Value}
theorem SO(hE:CV P E){i y:AV}(h:LB E G.H t x i=some (c,y))(hc:c=true){u:Value}(hx:RV G x v)(hi:RV G i u):
  ∃r,(Instr.indexAt t v u).run P w= .ok r w/\RV G y r:=by
 subst hc;unfold LB at h;split at h
 .cases h
 .rename_i ty hty;have hy:=hE t ty hty;split at h
  .rename_i k n;simp only[RV,RD]at hi;subst hi;split at h
   .rename_i e hk;split at h
    .cases h
    .rename_i z hz';have hz:=hE e z hz';split at h
     .rename_i l;simp only[yh,zL,yU,Em]at h;obtain⟨⟨⟨h0,h1⟩,h2⟩,rfl⟩:=h;have h2:=zH h2;simp only[RV,RD,cT,ZX,zY]at hx;obtain⟨a,cap,rfl,hcap,hx⟩:=hx;rcases hx with hx|⟨b,off,rfl,hx⟩
      .have:l=[]:=by simpa using hx
       subst this;simp at h1;omega
      .refine⟨_,EK hy hk hz w h0 h1,?_⟩;simp only[RV,N5,RD];refine⟨b,off+n.toNat,by rw[addr_add,h2,Nat.mul_one],⟨_,hx n.toNat _ ?_,rfl,rfl⟩,trivial⟩;rw[q03,NF (d:=0) h0 h1];rfl
     .rename_i l;simp only[yh,zL,yU,Em]at h;obtain⟨⟨⟨h0,h1⟩,h2⟩,rfl⟩:=h;have h2:=zH h2;simp only[RV,RD,cT,xu,zY]at hx;obtain⟨a,cap,rfl,hcap,hx⟩:=hx;rcases hx with hx|⟨b,off,rfl,hx⟩
      .have:l=[]:=by simpa using hx
       subst this;simp at h1;omega
      .refine⟨_,EK hy hk hz w h0 h1,?_⟩;simp only[RV,N5,RD];refine⟨b,off+n.toNat,by rw[addr_add,h2,Nat.mul_one],⟨_,hx n.toNat _ ?_,rfl,rfl⟩,trivial⟩;rw[q03,NF (d:=0) h0 h1];rfl
     .rename_i sz es;simp only[yh,zL,yU,Em]at h;obtain⟨⟨⟨h0,h1⟩,h2⟩,rfl⟩:=h;have h2:=zH h2;simp only[RV,RD]at hx;obtain⟨a,cap,rfl,hcap,hx⟩:=hx;rcases hx with hx|⟨b,off,rfl,hx⟩
      .subst hx;simp at h1;omega
      .refine⟨_,EK hy hk hz w h0 h1,?_⟩;simp only[RV];refine⟨b,off+n.toNat*sz,by rw[addr_add,h2],?_⟩;exact(cM hx n.toNat _ (NF h0 h1)).2
     .simp only[yh,zL,Em]at h;obtain⟨⟨h0,h1⟩,rfl⟩:=h;simp only[RV,RD]at hx;rw[hx.1];exact⟨_,EK hy hk hz w h0 h1,by simp only[RV,RD];exact⟨by rw[addr_add],rfl⟩⟩
     .rename_i id len sz;split at h
      .rename_i q hq;simp only[yh,zL,yU,Em]at h;obtain⟨⟨⟨hn,⟨h0,h1⟩⟩,h2⟩,rfl⟩:=h;have h2:=zH h2;have hn:=zH hn;simp only[RV]at hx|-;obtain⟨_,blk,hb,hp⟩:=hx;rw[hq]at hb;cases hb;obtain⟨g1,g2,g3⟩:=hp;rcases g3 hn with⟨g4,_⟩|⟨b,N,cap,g4,rfl,g5,g6,g7⟩
       .omega
       .exact⟨_,EK hy hk hz w h0 h1,rfl,_,hq,g1,g2,fun _=>⟨b,N,g4,by rw[addr_add,h2];congr 3;omega⟩⟩
      .cases h
     .rename_i id off len sz cnt;split at h
      .rename_i q hq;simp only[yh,zL,yU,Em]at h;obtain⟨⟨⟨h0,h1⟩,h2⟩,rfl⟩:=h;have h2:=zH h2;simp only[RV]at hx|-;obtain⟨_,blk,hb,hp⟩:=hx;rw[hq]at hb;cases hb;obtain⟨g1,g2,b,N,cap,g4,rfl,g5,g6⟩:=hp;exact⟨_,EK hy hk hz w h0 h1,rfl,_,hq,g1,b,N,g4,by rw[addr_add,h2]⟩
      .cases h
     .cases h
   .rename_i len e hk;split at h
    .cases h
    .rename_i z hz';have hz:=hE e z hz';split at h
     .rename_i id off cnt;split at h
      .rename_i q hq;simp only[yh,zL,Em]at h;obtain⟨⟨h0,h1⟩,rfl⟩:=h;simp only[RV]at hx|-;obtain⟨_,blk,hb,hp⟩:=hx;rw[hq]at hb;cases hb;obtain⟨g1,b,N,g4,rfl⟩:=hp;exact⟨_,Hl hy hk hz w h0 h1,rfl,_,hq,g1,b,N,g4,by rw[addr_add]⟩
      .cases h
     .rename_i cs;simp only[RV]at hx;obtain⟨b,off,rfl,hx⟩:=hx;split at h
      .rename_i h2;have h2:=zH h2;simp only[yh,zL,yU,Em,yc]at h;obtain⟨⟨⟨h0,h1⟩,h3⟩,rfl⟩:=h;simp only[RV];refine⟨_,Hl hy hk hz w h0 h1,b,off+n.toNat,by rw[addr_add,h2,Nat.mul_one],?_⟩;rw[Hw]at hx;simp only[N5,and_true];exact hx n.toNat _ (by simp[yj h3])
      .simp only[yh,zL,Em]at h;obtain⟨⟨h0,h1⟩,rfl⟩:=h;simp only[RV];exact⟨_,Hl hy hk hz w h0 h1,b,off+n.toNat*z.size,by rw[addr_add],by rw[GI];exact XK hx⟩
     .cases h
   .cases h
  .cases h
def W1(E:Nat->Option Bd)(t:Nat)(x i:AV):yy:=
 match E t with
 |none=>none
 |some y=>match i with
  | .d (.i _ n)=>match y.k with
   | .str=>match x with
    | .d (.s l)=>some (Um n l.length,.d (.i .u8 ((l.getD n.toNat 0).toNat:Int)))
    |_=>none
   | .arr len e=>match E e with
    |none=>none
    |some z=>match x with
     | .d (.agg cs)=>some (Um n len&&Nat.beq z.size 1&& !z.agg&&decide (n.toNat<cs.length),.d (cs.getD n.toNat .np))
     |_=>none
   |_=>none
  |_=>none
theorem aI(hE:CV P E){i y:AV}(h:W1 E t x i=some (c,y))(hc:c=true){u:Value}(hx:RV G x v)(hi:RV G i u):
  ∃r,(Instr.index t v u).run P w= .ok r w/\RV G y r:=by
 subst hc;unfold W1 at h;split at h
 .cases h
 .rename_i ty hty;have hy:=hE t ty hty;obtain⟨d,hd,hk',_⟩:=As hy w;split at h
  .rename_i k n;simp only[RV,RD]at hi;subst hi;split at h
   .rename_i hk;rw[hk]at hk';have hk':=I2 hk';subst hk';split at h
    .rename_i l;simp only[yh,zL,Em]at h;obtain⟨⟨h0,h1⟩,rfl⟩:=h;simp only[RV,RD]at hx|-;subst hx
     have hg:(⟨l.toArray⟩:ByteArray)[n.toNat]? =some (l.getD n.toNat 0):=by
      have hlt:n.toNat<l.length:=om
      have h2:n.toNat<(⟨l.toArray⟩:ByteArray).size:=by simpa[ByteArray.size]using hlt
      rw[getElem?_pos (⟨l.toArray⟩:ByteArray) n.toNat h2]
      congr 1
      show(⟨l.toArray⟩:ByteArray).data[n.toNat]=_;simp[yj hlt]
     refine⟨_,?_,rfl⟩;simp only[Instr.index,asIntOf,zf,zk,zQ,hd,zN h0,hg]
    .cases h
   .rename_i len e hk;rw[hk]at hk';have hk':=Iz hk';subst hk';split at h
    .cases h
    .rename_i z hz';have hz:=hE e z hz';split at h
     .rename_i cs;simp only[yh,zL,yU,Em,yc]at h;obtain⟨⟨⟨⟨⟨h0,h1⟩,h2⟩,h4⟩,h3⟩,rfl⟩:=h;have h2:=zH h2;simp only[RV,RD]at hx|-;obtain⟨vs,rfl,hvs⟩:=hx;obtain⟨u,hu,hr⟩:=(FA.1 hvs).2 n.toNat (cs.getD n.toNat .np) (by simp[yj h3]);have h4:z.agg=false:=by simpa using h4
      refine⟨u,?_,hr⟩;simp only[Instr.index,asIntOf,zf,zk,zQ,hd,zN (yg h0 h1),Sem.run_ite,BV hz,Of hz,h2,h4,Nat.mul_one];simp[hu]
     .cases h
   .cases h
  .cases h
def Fo(n:Nat):D->D
 | .by l=> .by (l.drop n)
 | .is l=> .is (l.drop n)
 | .sl sz es=> .sl sz (es.drop n)
 |x=>x
def takeD(n:Nat):D->D
 | .by l=> .by (l.take n)
 | .is l=> .is (l.take n)
 | .sl sz es=> .sl sz (es.take n)
 |x=>x
def W5(E:Nat->Option Bd)(H:yz)(t:Nat)(x:AV)(lo hi mx:Option (yv)):yy:=
 match E t with
 |none=>none
 |some y=>match y.k,mx with
  | .str,none=>match x with
   | .d (.s l)=>match lo,hi with
    |none,none=>some (true,.d (.s l))
    |some (some (.d (.i _ a))),none=>some (decide (0<=a)&&decide (a<=l.length),.d (.s (l.drop a.toNat)))
    |none,some (some (.d (.i _ b)))=>some (decide (0<=b)&&decide (b<=l.length),.d (.s (l.take b.toNat)))
    |some (some (.d (.i _ a))),some (some (.d (.i _ b)))=>some (decide (0<=a)&&decide (a<=b)&&decide (b<=l.length),.d (.s ((l.take b.toNat).drop a.toNat)))
    |_,_=>none
   |_=>none
  | .sl e,none=>match E e with
   |none=>none
   |some z=>match x with
    | .d q=>match B8 q,lo,hi with
     |true,none,none=>some (true,.d q)
     |true,some (some (.d (.i _ a))),none=>some (decide (0<=a)&&decide (a<=B3 q)&&Nat.beq z.size (Bt q),.d (Fo a.toNat q))
     |true,none,some (some (.d (.i _ b)))=>some (decide (0<=b)&&decide (b<=B3 q),.d (takeD b.toNat q))
     |true,some (some (.d (.i _ a))),some (some (.d (.i _ b)))=>some (decide (0<=a)&&decide (a<=b)&&decide (b<=B3 q)&&Nat.beq z.size (Bt q),.d (Fo a.toNat (takeD b.toNat q)))
     |_,_,_=>none
    | .e0=>match lo,hi with
     |none,none=>some (true,.e0)
     |some (some (.d (.i _ a))),none=>some (a==0,.e0)
     |none,some (some (.d (.i _ b)))=>some (b==0,.e0)
     |some (some (.d (.i _ a))),some (some (.d (.i _ b)))=>some (a==0&&b==0,.e0)
     |_,_=>none
    |_=>none
  | .sl e,some (some (.d (.i _ m)))=>match E e with
   |none=>none
   |some _=>match lo,hi with
    |none,some (some (.d (.i _ b)))=>match x with
     | .d q=>some (B8 q&&b==0&&m==0,.e0)
     | .e0=>some (b==0&&m==0,.e0)
     |_=>none
    |_,_=>none
  | .arr m e,none=>match E e,x,lo,hi with
   |some z,.ptr id off cnt,none,none=>match H[id]? with
    |some (.c _)=>some (Nat.ble (off+m*z.size) cnt,.bs id off m z.size cnt)
    |_=>none
   |_,_,_,_=>none
  |_,_=>none
variable {q:D}{n:Nat}
theorem jB:B3 (Fo n q)=B3 q-n:=by cases q<;>simp[B3,Fo]
theorem jD:B3 (takeD n q)=min n (B3 q):=by cases q<;>simp[B3,takeD]
theorem aW:B8 (Fo n q)=B8 q:=by cases q<;>simp[B8,Fo]
theorem aX:B8 (takeD n q)=B8 q:=by cases q<;>simp[B8,takeD]
theorem bu:Bt (takeD n q)=Bt q:=by cases q<;>simp[Bt,takeD]
theorem bq(h:Aq q):Aq (Fo n q):=by
 cases q<;>simp only[Fo,Aq];intro e he;exact h e (List.mem_of_mem_drop he)
theorem Tt(h:Aq q):Aq (takeD n q):=by
 cases q<;>simp only[takeD,Aq];intro e he;exact h e (List.mem_of_mem_take he)
theorem O3{α:Type}{sz:Nat}:∀{es:List (List α)}{n:Nat},(∀e∈es,e.length=sz)->(es.drop n).flatten=es.flatten.drop (n*sz)
 |[],n,_|e::es,0,_=>by simp
 |e::es,n+1,h=>by
  have he:=h e sm;simp only[List.drop_succ_cons,q0U];rw[O3 (fun x hx=>h x (by simp[hx])),List.drop_append,he];rw[show(n+1)*sz-sz=n*sz by rw[q0i];omega];have h3:List.drop ((n+1)*sz) e=[]:=List.drop_of_length_le (by rw[he,q0i];omega);rw[h3];simp
theorem O4{α:Type}{sz:Nat}:∀{es:List (List α)}{n:Nat},(∀e∈es,e.length=sz)->(es.take n).flatten=es.flatten.take (n*sz)
 |[],n,_|e::es,0,_=>by simp
 |e::es,n+1,h=>by
  have he:=h e sm;simp only[List.take_succ_cons,q0U];rw[O4 (fun x hx=>h x (by simp[hx])),List.take_append,he];rw[show(n+1)*sz-sz=n*sz by rw[q0i];omega];have h3:List.take ((n+1)*sz) e=e:=q17 (by rw[he,q0i];omega);rw[h3]
theorem iy(h:Aq q):slc (Fo n q)=(slc q).drop (n*Bt q):=by
 cases q<;>simp[slc,Fo,Bt,List.map_drop];exact O3 h
theorem j9(h:Aq q):slc (takeD n q)=(slc q).take (n*Bt q):=by
 cases q<;>simp[slc,takeD,Bt,List.map_take];exact O4 h
variable {lo hi:Option Value}
theorem Cz(hy:Gp P t=some y)(hk:y.k= .sl e)(hz:Gp P e=some z)(w:World){a:Option Addr}{l h:Nat}(hlo:lo=none/\l=0\/∃k,lo=some (.int k (l:Int)))(hhi:hi=none/\h=len\/∃k,hi=some (.int k (h:Int)))(h1:l<=h)(h2:h<=cap):
  (Instr.sliceAt t (.slice a len cap) lo hi none).run P w= .ok (.slice (if cap=l then a else a.map (·.add (l*z.size))) (h-l) (cap-l)) w:=by
 obtain⟨d,hd,hk',_⟩:=As hy w;rw[hk]at hk';have hk':=Eh hk';subst hk'
 have b1:∀(k:IntKind)(c:BoundsCode),(Instr.sliceBound (.int k (h:Int)) cap c).run P w= .ok h w:=fun k c=>by
  simp only[Instr.sliceBound,asIntOf,zf,zk,zQ];rw[zN ⟨om,om⟩];simp
 have b2:∀(k:IntKind)(c:BoundsCode),(Instr.sliceBound (.int k (l:Int)) h c).run P w= .ok l w:=fun k c=>by
  simp only[Instr.sliceBound,asIntOf,zf,zk,zQ];rw[zN ⟨om,om⟩];simp
 simp only[Instr.sliceAt,zf,hd,zQ,Instr.slice,Instr.sliceBounds,zk]
 rcases hlo with⟨rfl,rfl⟩|⟨k,rfl⟩<;>rcases hhi with⟨rfl,rfl⟩|⟨k',rfl⟩<;>
  simp[b1,b2,BV hz]
theorem Ng{m:Mem}(hs:B8 q=true){a:Option Addr}{l h:Nat}{sz:Nat}(hq:RD m q (.slice a (B3 q) cap))(hsz:l=0\/sz=Bt q)(h1:l<=h)(h2:h<=B3 q):
  RD m (Fo l (takeD h q)) (.slice (if cap=l then a else a.map (·.add (l*sz))) (h-l) (cap-l)):=by
 rw[Ek hs]at hq;obtain⟨a',cap',e,hc,ho,hr⟩:=hq;simp only[Value.slice.injEq,true_and]at e;obtain⟨rfl,rfl⟩:=e;have hs':B8 (Fo l (takeD h q))=true:=by rw[aW,aX,hs]
 rw[Ek hs'];have hn:B3 (Fo l (takeD h q))=h-l:=by rw[jB,jD];omega
 refine⟨_,_,by rw[hn],om,bq (Tt ho),?_⟩;rw[hn];rcases hr with hr|⟨b,off,rfl,hr⟩
 .exact .inl om
 .by_cases hz:h-l=0
  .exact .inl hz
  .refine .inr ⟨b,off+l*Bt q,?_,fun k d hd=> ?_⟩
   .rw[zO om];rcases hsz with rfl|rfl
    .simp[Addr.add]
    .simp[addr_add]
   .rw[iy (Tt ho),j9 ho,bu,q0Y,q0T]at hd;split at hd
    .have:=hr _ d hd;rwa [show off+l*Bt q+k=off+(l*Bt q+k)by omega]
    .cases hd
def RS(G:Gh)(o:Option (yv))(v:Option Value):Prop:=
 match o,v with
 |none,none=>True
 |some (some x),some u=>RV G x u
 |some none,some _=>True
 |_,_=>False
theorem Db{v:Option Value}(h:RS G none v):v=none:=by cases v<;>simp[RS]at h;rfl
theorem GH{n:Int}{v:Option Value}(h:RS G (some (some (.d (.i k n)))) v):v=some (.int k n):=by
 cases v with
 |none=>simp[RS]at h
 |some u=>simp only[RS,RV,RD]at h;rw[h]
theorem HG(hy:Gp P t=some y)(hk:y.k= .str)(w:World){l:AT}{a b:Nat}(hlo:lo=none/\a=0\/∃k,lo=some (.int k (a:Int)))(hhi:hi=none/\b=l.length\/∃k,hi=some (.int k (b:Int)))(h1:a<=b)(h2:b<=l.length):
  (Instr.sliceAt t (.string ⟨l.toArray⟩) lo hi none).run P w= .ok (.string ⟨((l.take b).drop a).toArray⟩) w:=by
 obtain⟨d,hd,hk',_⟩:=As hy w;rw[hk]at hk';have hk':=I2 hk';subst hk';have hsz:(⟨l.toArray⟩:ByteArray).size=l.length:=by simp[ByteArray.size]
 have b1:∀(k:IntKind)(c:BoundsCode),(Instr.sliceBound (.int k (b:Int)) l.length c).run P w= .ok b w:=fun k c=>by
  simp only[Instr.sliceBound,asIntOf,zf,zk,zQ];rw[zN ⟨om,om⟩];simp
 have b2:∀(k:IntKind)(c:BoundsCode),(Instr.sliceBound (.int k (a:Int)) b c).run P w= .ok a w:=fun k c=>by
  simp only[Instr.sliceBound,asIntOf,zf,zk,zQ];rw[zN ⟨om,om⟩];simp
 have hext:(⟨l.toArray⟩:ByteArray).extract a b=⟨((l.take b).drop a).toArray⟩:=by
  apply ByteArray.ext;simp[ByteArray.data_extract,List.extract_eq_take_drop,List.drop_take]
 simp only[Instr.sliceAt,zf,hd,zQ,Instr.slice,Instr.sliceBounds,zk,hsz]
 rcases hlo with⟨rfl,rfl⟩|⟨k,rfl⟩<;>rcases hhi with⟨rfl,rfl⟩|⟨k',rfl⟩<;>
  simp[b1,b2,hext]
theorem aM(hE:CV P E){y:AV}{lo hi mx:Option (yv)}(h:W5 E G.H t x lo hi mx=some (c,y))(hc:c=true)(hr:B9 G w){lv hv mv:Option Value}(hx:RV G x v)(hlo:RS G lo lv)(hhi:RS G hi hv)(hmx:RS G mx mv):
  ∃r,(Instr.sliceAt t v lv hv mv).run P w= .ok r w/\RV G y r:=by
 subst hc;unfold W5 at h;split at h
 .cases h
 .rename_i ty hty;have hy:=hE t ty hty;split at h
  ·
   rename_i hk;have:=Db hmx;subst this;split at h
   .rename_i l;simp only[RV,RD]at hx;subst hx;split at h
    .cases h;have:=Db hlo;have:=Db hhi;subst_vars;exact⟨_,HG hy hk w (a:=0) (b:=l.length) (.inl ⟨rfl,rfl⟩) (.inl ⟨rfl,rfl⟩) om om,by simp[RV,RD]⟩
    .rename_i k a;simp only[yh,zL,yU,yc]at h;obtain⟨⟨h0,h1⟩,rfl⟩:=h;have:=GH hlo;have:=Db hhi;subst_vars;exact⟨_,HG hy hk w (a:=a.toNat) (b:=l.length) (.inr ⟨k,by rw[q1S h0]⟩) (.inl ⟨rfl,rfl⟩) om om,by simp[RV,RD]⟩
    .rename_i k b;simp only[yh,zL,yU,yc]at h;obtain⟨⟨h0,h1⟩,rfl⟩:=h;have:=Db hlo;have:=GH hhi;subst_vars;exact⟨_,HG hy hk w (a:=0) (b:=b.toNat) (.inl ⟨rfl,rfl⟩) (.inr ⟨k,by rw[q1S h0]⟩) om om,by simp[RV,RD]⟩
    .rename_i k a k' b;simp only[yh,zL,yU,yc]at h;obtain⟨⟨⟨h0,h1⟩,h2⟩,rfl⟩:=h;have:=GH hlo;have:=GH hhi;subst_vars;exact⟨_,HG hy hk w (a:=a.toNat) (b:=b.toNat) (.inr ⟨k,by rw[q1S h0]⟩) (.inr ⟨k',by rw[q1S om]⟩) om om,by simp[RV,RD]⟩
    .cases h
   .cases h
  ·
   rename_i e hk;have:=Db hmx;subst this;split at h
   .cases h
   .rename_i z hz';have hz:=hE e z hz';split at h
    .rename_i q;split at h
     .rename_i hs;cases h;have:=Db hlo;have:=Db hhi;subst_vars;simp only[RV]at hx;obtain⟨a,cap,rfl,hcap,_⟩:=(Ek hs).1 hx;have hr:=Ng hs (l:=0) (h:=B3 q) (sz:=z.size) hx (.inl rfl) om om;refine⟨_,Cz hy hk hz w (l:=0) (h:=B3 q) (.inl ⟨rfl,rfl⟩) (.inl ⟨rfl,rfl⟩) om hcap,?_⟩;have e1:Fo 0 (takeD (B3 q) q)=q:=by cases q<;>simp[Fo,takeD,B3]
      rw[e1]at hr;simpa only[RV]using hr
     .rename_i k a hs;simp only[yh,zL,yU,yc]at h;obtain⟨⟨⟨h0,h1⟩,h3⟩,rfl⟩:=h;have h3:=zH h3;have:=GH hlo;have:=Db hhi;subst_vars;simp only[RV]at hx;obtain⟨ad,cap,rfl,hcap,_⟩:=(Ek hs).1 hx;have hr:=Ng hs (l:=a.toNat) (h:=B3 q) (sz:=z.size) hx (.inr h3) om om;refine⟨_,Cz hy hk hz w (l:=a.toNat) (h:=B3 q) (.inr ⟨k,by rw[q1S h0]⟩) (.inl ⟨rfl,rfl⟩) om hcap,?_⟩;have e1:takeD (B3 q) q=q:=by cases q<;>simp[takeD,B3]
      rw[e1]at hr;simpa only[RV]using hr
     .rename_i k b hs;simp only[yh,zL,yU,yc]at h;obtain⟨⟨h0,h1⟩,rfl⟩:=h;have:=Db hlo;have:=GH hhi;subst_vars;simp only[RV]at hx;obtain⟨ad,cap,rfl,hcap,_⟩:=(Ek hs).1 hx;have hr:=Ng hs (l:=0) (h:=b.toNat) (sz:=z.size) hx (.inl rfl) om om;refine⟨_,Cz hy hk hz w (l:=0) (h:=b.toNat) (.inl ⟨rfl,rfl⟩) (.inr ⟨k,by rw[q1S h0]⟩) om om,?_⟩;have e1:Fo 0 (takeD b.toNat q)=takeD b.toNat q:=by cases q<;>simp[Fo,takeD]
      rw[e1]at hr;simpa only[RV]using hr
     .rename_i k a k' b hs;simp only[yh,zL,yU,yc]at h;obtain⟨⟨⟨⟨h0,h1⟩,h2⟩,h3⟩,rfl⟩:=h;have h3:=zH h3;have:=GH hlo;have:=GH hhi;subst_vars;simp only[RV]at hx;obtain⟨ad,cap,rfl,hcap,_⟩:=(Ek hs).1 hx;have hr:=Ng hs (l:=a.toNat) (h:=b.toNat) (sz:=z.size) hx (.inr h3) om om;refine⟨_,Cz hy hk hz w (l:=a.toNat) (h:=b.toNat) (.inr ⟨k,by rw[q1S h0]⟩) (.inr ⟨k',by rw[q1S om]⟩) om om,?_⟩;simpa only[RV]using hr
     .cases h
    .simp only[RV]at hx;obtain⟨ad,rfl⟩:=hx;have fin:∀{r:Result Value},r= .ok (.slice (if(0:Nat)=0 then ad else ad.map (·.add (0*z.size))) (0-0) (0-0)) w->∃u,r= .ok u w/\RV G .e0 u:=fun hr=>⟨_,hr,by simp only[RV];exact⟨ad,rfl⟩⟩
     split at h
     .cases h;have:=Db hlo;have:=Db hhi;subst_vars;exact fin (Cz hy hk hz w (l:=0) (h:=0) (.inl ⟨rfl,rfl⟩) (.inl ⟨rfl,rfl⟩) om om)
     .simp only[yh,zL,beq_iff_eq]at h;obtain⟨h0,rfl⟩:=h;have:=GH hlo;have:=Db hhi;subst_vars;exact fin (Cz hy hk hz w (l:=0) (h:=0) (.inr ⟨_,rfl⟩) (.inl ⟨rfl,rfl⟩) om om)
     .simp only[yh,zL,beq_iff_eq]at h;obtain⟨h0,rfl⟩:=h;have:=Db hlo;have:=GH hhi;subst_vars;exact fin (Cz hy hk hz w (l:=0) (h:=0) (.inl ⟨rfl,rfl⟩) (.inr ⟨_,rfl⟩) om om)
     .simp only[yh,zL,yU,beq_iff_eq]at h;obtain⟨⟨h0,h1⟩,rfl⟩:=h;have:=GH hlo;have:=GH hhi;subst_vars;exact fin (Cz hy hk hz w (l:=0) (h:=0) (.inr ⟨_,rfl⟩) (.inr ⟨_,rfl⟩) om om)
     .cases h
    .cases h
  ·
   rename_i e k m hk;obtain⟨d,hd,hk',_⟩:=As hy w;rw[hk]at hk';have hk':=Eh hk';subst hk';have hm:=GH hmx;subst hm;split at h
   .cases h
   .rename_i z hz';have hz:=hE e z hz';split at h
    .rename_i k' b;have e1:=Db hlo;have e2:=GH hhi;subst e1;subst e2
     have b1:∀(c:BoundsCode)(n:Nat)(kk:IntKind),(Instr.sliceBound (.int kk 0) n c).run P w= .ok 0 w:=fun c n kk=>by
      simp only[Instr.sliceBound,asIntOf,zf,zk,zQ];rw[zN ⟨om,om⟩];simp
     have key:∀(a:Option Addr)(len cap:Nat),b=0->m=0->∃r,(Instr.sliceAt t (.slice a len cap) none (some (.int k' b)) (some (.int k m))).run P w= .ok r w/\RV G .e0 r:=by
      intro a len cap hb hm;subst hb;subst hm;refine⟨.slice a 0 0,?_,by simp only[RV];exact⟨a,rfl⟩⟩;simp[Instr.sliceAt,hd,Instr.slice,Instr.sliceBounds,b1,BV hz]
     split at h
     .rename_i q;simp only[yh,zL,yU,beq_iff_eq]at h;obtain⟨⟨⟨hs,hb⟩,hm⟩,rfl⟩:=h;simp only[RV]at hx;obtain⟨a,cap,rfl,_⟩:=(Ek hs).1 hx;exact key _ _ _ hb hm
     .simp only[yh,zL,yU,beq_iff_eq]at h;obtain⟨⟨hb,hm⟩,rfl⟩:=h;simp only[RV]at hx;obtain⟨a,rfl⟩:=hx;exact key _ _ _ hb hm
     .cases h
    .cases h
  ·
   rename_i m e hk;have:=Db hmx;subst this;obtain⟨d,hd,hk',_⟩:=As hy w;rw[hk]at hk';have hk':=Iz hk';subst hk';split at h
   .rename_i z id off cnt hz';split at h
    .rename_i cs hq;simp only[yh,zL]at h;obtain⟨h1,rfl⟩:=h;have h1:=q0X h1;have hz:=hE e z hz';have:=Db hlo;have:=Db hhi;subst_vars;simp only[RV]at hx;obtain⟨_,blk,hb,hp⟩:=hx;rw[hq]at hb;cases hb;obtain⟨h2,b,n,h3,rfl⟩:=hp;obtain⟨b',N,vs,T,k1,k2,k3,k4,_⟩:=hr.blk id _ hq;rw[h3]at k1;cases k1;refine⟨.slice (some ⟨b,off,none⟩) m m,?_,?_⟩
     .simp[Instr.sliceAt,zf,hd,zQ,Instr.sureAddr,Instr.sliceBounds,zk,BV hz,Addr.add]
     .simp only[RV];exact⟨rfl,_,hq,h2,h1,b,n,m,h3,rfl,yV _,om⟩
    .cases h
   .cases h
  .cases h
end Go.Gar
namespace Go.Gar
def kz(E:Nat->Option Bd)(H:yz)(t:Nat)(x:AV):yy:=
 match E t with
 |none=>none
 |some y=>match y.k with
  | .str=>match x with
   | .d (.s l)=>some (true,.d (.i .i64 l.length))
   |_=>none
  | .sl _=>match x with
   | .d (.by l)=>some (true,.d (.i .i64 l.length))
   | .d (.is l)=>some (true,.d (.i .i64 l.length))
   | .d (.sl _ es)=>some (true,.d (.i .i64 es.length))
   | .e0=>some (true,.d (.i .i64 0))
   | .d (.raw (.slice _ n _))=>some (true,.d (.i .i64 n))
   | .sl id n _=>match H[id]? with
    |some (.a q)=>some (Nat.beq n (B3 q),.d (.i .i64 n))
    |_=>none
   | .bs id _ n _ _=>match H[id]? with
    |some (.c _)=>some (true,.d (.i .i64 n))
    |_=>none
   |_=>none
  | .arr n _=>some (true,.d (.i .i64 n))
  |_=>none
variable {P:Program}{E:Nat->Option Bd}{G:Gh}{w:World}{t:Nat}{x y:AV}{c:Bool}{v:Value}
theorem l8(hE:CV P E){ty:Nat}(h:kz E G.H t x=some (c,y))(hc:c=true)(hx:RV G x v):
  ∃r,(Builtin.len_ #[t] ty #[v]).run P w= .ok r w/\RV G y r:=by
 subst hc;unfold kz at h;split at h
 .cases h
 .rename_i q hty;have hy:=hE t q hty;obtain⟨d,hd,hk',_⟩:=As hy w
  have slc:∀{e:Nat}{a:Option Addr}{n cap:Nat},q.k= .sl e->v= .slice a n cap->(Builtin.len_ #[t] ty #[v]).run P w= .ok (.int .i64 n) w:=by
   intro e a n cap hk hv;rw[hk]at hk';have hk':=Eh hk';subst hk';subst hv;simp[Builtin.len_,hd,goInt]
  split at h
  .rename_i hk;split at h
   .rename_i l;cases h;rw[hk]at hk';have hk':=I2 hk';subst hk';simp only[RV,RD]at hx|-;subst hx;refine⟨_,?_,rfl⟩;have hsz:(⟨l.toArray⟩:ByteArray).size=l.length:=by simp[ByteArray.size]
    simp[Builtin.len_,hd,goInt,hsz]
   .cases h
  .rename_i e hk;split at h
   .rename_i l;cases h;simp only[RV,RD,cT,ZX,zY]at hx|-;obtain⟨a,cap,hv,_⟩:=hx;exact⟨_,slc hk hv,rfl⟩
   .rename_i l;cases h;simp only[RV,RD,cT,xu,zY]at hx|-;obtain⟨a,cap,hv,_⟩:=hx;exact⟨_,slc hk hv,rfl⟩
   .rename_i sz es;cases h;simp only[RV,RD]at hx|-;obtain⟨a,cap,hv,_⟩:=hx;exact⟨_,slc hk hv,rfl⟩
   .cases h;simp only[RV,RD]at hx|-;obtain⟨a,hv⟩:=hx;exact⟨_,slc hk hv,rfl⟩
   .cases h;simp only[RV,RD]at hx|-;exact⟨_,slc hk hx.1,rfl⟩
   .rename_i id n sz;split at h
    .rename_i z hz;simp only[yh,zL]at h;obtain⟨hn,rfl⟩:=h;simp only[RV,RD]at hx|-;obtain⟨_,blk,hb,hp⟩:=hx;rw[hz]at hb;cases hb;obtain⟨g1,g2,g3⟩:=hp;rcases g3 (zH hn)with⟨g4,a,g5⟩|⟨b,N,cap,g4,g5,_⟩
     .exact⟨_,slc hk g5,by rw[g4]⟩
     .exact⟨_,slc hk g5,rfl⟩
    .cases h
   .rename_i id off n sz cnt;split at h
    .rename_i z hz;cases h;simp only[RV,RD]at hx|-;obtain⟨_,blk,hb,hp⟩:=hx;rw[hz]at hb;cases hb;obtain⟨g1,g2,b,N,cap,g4,g5,_⟩:=hp;exact⟨_,slc hk g5,rfl⟩
    .cases h
   .cases h
  .rename_i n e hk;cases h;rw[hk]at hk';have hk':=Iz hk';subst hk';simp only[RV,RD];exact⟨_,by simp[Builtin.len_,hd,goInt],rfl⟩
  .cases h
def l9(H:yz)(x:AV):yy:=
 match x with
 | .ptr id off cnt=>match H[id]? with
  |some (.c _)=>some (true,.ptr id off cnt)
  |_=>none
 | .ep id i off n sz=>match H[id]? with
  |some (.a q)=>some (Nat.beq n (B3 q),.ep id i off n sz)
  |_=>none
 | .dp cs=>some (true,.dp cs)
 | .fn (.func f) a b=>some (true,.fn (.func f) a b)
 |_=>none
theorem lA(h:l9 G.H x=some (c,y))(hc:c=true){a:Act}{o:Oper}{p:Operand}(ho:o.op= .nilCheck p)(hx:RV G x (a.eval p)):
  ∃r,(execOp a.eval o).run P w= .ok (.value r) w/\RV G y r:=by
 subst hc
 have key:∀v,a.eval p=v->(∃q,v= .pointer (some q))\/(∃f p q,v= .func (.func f) p q)->(execOp a.eval o).run P w= .ok (.value v) w:=by
  intro v hv h;unfold execOp;simp only[ho,hv];rcases h with⟨q,rfl⟩|⟨f,p,q,rfl⟩<;>simp
 unfold l9 at h;split at h
 .rename_i id off cnt;split at h
  .rename_i cs hcs;cases h;have hx':=hx;simp only[RV]at hx';obtain⟨_,blk,hb,hp⟩:=hx';rw[hcs]at hb;cases hb;obtain⟨g1,b,N,g2,g3⟩:=hp;exact⟨_,key _ rfl (.inl ⟨_,g3⟩),hx⟩
  .cases h
 .rename_i id i off n sz;split at h
  .rename_i q hq;simp only[yh,zL]at h;obtain⟨hn,rfl⟩:=h;have hx':=hx;simp only[RV]at hx';obtain⟨_,blk,hb,hp⟩:=hx';rw[hq]at hb;cases hb;obtain⟨g1,g2,g3⟩:=hp;obtain⟨b,N,g4,g5⟩:=g3 (zH hn);exact⟨_,key _ rfl (.inl ⟨_,g5⟩),hx⟩
  .cases h
 .rename_i cs;cases h;have hx':=hx;simp only[RV]at hx';obtain⟨b,off,g5,_⟩:=hx';exact⟨_,key _ rfl (.inl ⟨_,g5⟩),hx⟩
 .rename_i f p q;cases h;have hx':=hx;simp only[RV]at hx';obtain⟨p,q,g5,_⟩:=hx';exact⟨_,key _ rfl (.inr ⟨_,_,_,g5⟩),hx⟩
 .cases h
def uT(E:Nat->Option Bd)(H:yz)(t:Nat)(x y:AV):Option Bool:=
 match E t with
 |none=>none
 |some q=>match q.k with
  | .bool=>match x,y with
   | .d (.b a),.d (.b b)=>some (a==b)
   |_,_=>none
  | .fn=>match x,y with
   | .d .nf,.d .nf=>some true
   | .fn _ _ _,.d .nf| .d .nf,.fn _ _ _=>some false
   | .yl id,.d .nf=>match H[id]? with
    |some (.lp _)=>some false
    |_=>none
   |_,_=>none
  | .ptr _=>match x,y with
   | .d .np,.d .np=>some true
   | .ptr id _ _,.d .np=>match H[id]? with
    |some (.c _)=>some false
    |_=>none
   | .dp _,.d .np=>some false
   |_,_=>none
  |_=>none
variable {u:Value}{r:Bool}
theorem HM(h:∀d,(Op.equalIn (d+1) t v u).run P w= .ok r w):(Op.equal t v u).run P w= .ok r w:=h 9999
theorem qM(hE:CV P E)(h:uT E G.H t x y=some r)(hx:RV G x v)(hy:RV G y u):
  (Op.equal t v u).run P w= .ok r w/\(∀k n,v≠ .int k n)/\(∀k n,v≠ .float k n)/\(∀s,v≠ .string s)/\(∀k a b,v≠ .complex k a b)/\(∀a,v≠ .agg a)/\v≠ .nilIface:=by
 unfold uT at h;split at h
 .cases h
 .rename_i q hty;obtain⟨d,hd,hk',hu⟩:=As (hE t q hty) w;split at h
  .rename_i hk;rw[hk]at hk';have hk':=OG hk';subst hk';split at h
   .rename_i a b;cases h;simp only[RV,RD]at hx hy;subst hx;subst hy;refine⟨?_,sm,sm,sm,sm,sm,sm⟩;exact HM fun d=>by simp only[Op.equalIn,zf,hd,zQ,zk,q1W,q1V]
   .cases h
  .rename_i hk;rw[hk]at hk';obtain⟨f1,f2,f3,rfl⟩:=uf hk';split at h
   .cases h;simp only[RV,RD]at hx hy;subst hx;subst hy;refine⟨?_,sm,sm,sm,sm,sm,sm⟩;exact HM fun d=>by simp only[Op.equalIn,zf,hd,zQ,zk,q1W,q1V]
   .cases h;simp only[RV,RD]at hx hy;obtain⟨p,q,rfl,_⟩:=hx;subst hy;refine⟨?_,sm,sm,sm,sm,sm,sm⟩;exact HM fun d=>by simp only[Op.equalIn,zf,hd,zQ,zk,q1W,q1V]
   .cases h;simp only[RV,RD]at hx hy;obtain⟨p,q,rfl,_⟩:=hy;subst hx;refine⟨?_,sm,sm,sm,sm,sm,sm⟩;exact HM fun d=>by simp only[Op.equalIn,zf,hd,zQ,zk,q1W,q1V]
   .rename_i id;split at h
    .rename_i lp hlp;cases h;simp only[RV,RD]at hx hy;obtain⟨_,blk,hb,hp⟩:=hx;rw[hlp]at hb;cases hb;obtain⟨b,n,_,rfl⟩:=hp;subst hy;refine⟨?_,sm,sm,sm,sm,sm,sm⟩;exact HM fun d=>by simp only[Op.equalIn,zf,hd,zQ,zk,q1W,q1V]
    .cases h
   .cases h
  .rename_i e hk;rw[hk]at hk';have hk':=qz hk';subst hk';split at h
   .cases h;simp only[RV,RD]at hx hy;subst hx;subst hy;refine⟨?_,sm,sm,sm,sm,sm,sm⟩;exact HM fun d=>by simp only[Op.equalIn,zf,hd,zQ,zk,q1W,q1V]
   .rename_i id off cnt;split at h
    .rename_i cs hcs;cases h;simp only[RV,RD]at hx hy;obtain⟨_,blk,hb,hp⟩:=hx;rw[hcs]at hb;cases hb;obtain⟨_,b,n,_,rfl⟩:=hp;subst hy;refine⟨?_,sm,sm,sm,sm,sm,sm⟩;exact HM fun d=>by simp only[Op.equalIn,zf,hd,zQ,zk,q1W,q1V]
    .cases h
   .cases h;simp only[RV,RD]at hx hy;obtain⟨b,off,rfl,_⟩:=hx;subst hy;refine⟨?_,sm,sm,sm,sm,sm,sm⟩;exact HM fun d=>by simp only[Op.equalIn,zf,hd,zQ,zk,q1W,q1V]
   .cases h
  .cases h
def eq1:D->D->Bool
 | .i _ a,.i _ b=>a==b
 | .s a,.s b=>a==b
 | .b a,.b b=>a==b
 |_,_=>false
def P2:yo->yo->Bool
 |[],[]=>true
 |x::xs,y::ys=>eq1 x y&&P2 xs ys
 |_,_=>false
theorem dL:∀{a a' b b':yo},a.length=a'.length->P2 (a++b) (a'++b')=(P2 a a'&&P2 b b')
 |[],[],_,_,_=>by simp[P2]
 |x::a,y::a',b,b',h=>by
  simp only[zA,P2,dL (a:=a) (a':=a') (by simpa using h),Bool.and_assoc]
 |[],_::_,_,_,h=>by cases h
 |_::_,[],_,_,h=>by cases h
mutual
def Hi(E:Nat->Option Bd):Nat->Nat->yo->Bool
 |0,_,_=>false
 |n+1,t,cs=>match E t with
  |none=>false
  |some y=>match y.k with
   | .int k=>match cs with
    |[.i k' _]=>decide (k'=k)
    |_=>false
   | .str=>match cs with
    |[.s _]=>true
    |_=>false
   | .bool=>match cs with
    |[.b _]=>true
    |_=>false
   | .st fs=>Ku E n fs 0 cs
   | .arr len e=>match E e with
    |some z=>Nat.beq z.size 1&& !z.agg&&Nat.beq cs.length len&&cs.all (fun c=>Hi E n e [c])
    |none=>false
   |_=>false
def Ku(E:Nat->Option Bd):Nat->y4->Nat->yo->Bool
 |_,[],_,cs=>cs.isEmpty
 |0,_::_,_,_=>false
 |n+1,(off,ft)::r,o,cs=>match E ft with
  |some z=>Nat.beq off o&&Nat.ble z.size cs.length&&Hi E n ft (cs.take z.size)&&Ku E n r (o+z.size) (cs.drop z.size)
  |none=>false
end
def mkT(y:Bd)(vs:y6):Value:=if y.agg then .agg vs.toArray else vs.headD undef
variable {cs:yo}{vs:y6}
theorem Nj{m:Mem}(h:Eb m cs vs)(k:Nat):Eb m (cs.take k) (vs.take k):=by
 rw[FA]at h|-;refine⟨by simp[h.1],fun j d hd=> ?_⟩;rw[q0T]at hd;split at hd
 .rename_i hj;obtain⟨v,hv,hr⟩:=h.2 j d hd;exact⟨v,by rw[q0T,zN hj];exact hv,hr⟩
 .cases hd
theorem Ni{m:Mem}(h:Eb m cs vs)(k:Nat):Eb m (cs.drop k) (vs.drop k):=by
 rw[FA]at h|-;refine⟨by simp[h.1],fun j d hd=> ?_⟩;rw[q0Y]at hd;obtain⟨v,hv,hr⟩:=h.2 _ d hd;exact⟨v,by rw[q0Y];exact hv,hr⟩
theorem Y0{n:Nat}{y:Bd}(ht:E t=some y)(h:Hi E n t cs=true)(ha:y.agg=false):cs.length=1\/(∃fs,y.k= .st fs)\/(∃a b,y.k= .arr a b):=by
 cases n with
 |zero=>simp[Hi]at h
 |succ n=>
  simp only[Hi,ht]at h;split at h
  .split at h
   .exact .inl rfl
   .cases h
  .split at h
   .exact .inl rfl
   .cases h
  .split at h
   .exact .inl rfl
   .cases h
  .rename_i fs hk;exact .inr (.inl ⟨fs,hk⟩)
  .rename_i a b hk;exact .inr (.inr ⟨a,b,hk⟩)
  .cases h
theorem OF{d:TypeDesc}:cy d=(match P3 d with| .st _=>true| .arr _ _=>true|_=>false):=by
 cases d<;>rfl
theorem R3{ft:Nat}{z:Bd}(hz:Gp P ft=some z)(w:World)(vs:y6)(o:Nat)(h1:z.agg=false->o<vs.length)(h2:z.agg=false->z.size=1):(part ft vs.toArray o).run P w= .ok (mkT z ((vs.drop o).take z.size)) w:=by
 rw[Of hz];unfold mkT
 cases ha:z.agg with
 |true=>simp[extract_eq]
 |false=>
  have h1:=h1 ha;have h2:=h2 ha;simp only[q0F,zo,h2];have e:(vs.drop o).take 1=[vs[o]]:=by rw[q0V h1];rfl
  rw[e];simp[h1]
theorem kh{P:Program}{E:Nat->Option Bd}(hE:CV P E){M:Mem}:∀(n:Nat),
  (∀t y cs cs' vs us m d w,E t=some y->Hi E n t cs=true->Hi E n t cs'=true->P.keyTypeAt m t=true->Eb M cs vs->Eb M cs' us->(Op.equalIn (d+m) t (mkT y vs) (mkT y us)).run P w= .ok (P2 cs cs') w/\cs.length=cs'.length)/\
  (∀(fs:List Field) o cs cs' (vs us:y6) m d w, Ku E n (fs.map fun f=>(f.offset, f.type)) o cs=true->Ku E n (fs.map fun f=>(f.offset, f.type)) o cs'=true->(∀f∈fs, f.name≠ "_" /\P.keyTypeAt m f.type=true)->Eb M cs (vs.drop o)->Eb M cs' (us.drop o)->
   (Op.eqFields (d+m) vs.toArray us.toArray fs).run P w= .ok (P2 cs cs') w/\cs.length=cs'.length)
 |0=>by
  refine⟨fun t y cs cs' vs us m d w _ h=>by simp[Hi]at h,fun fs o cs cs' vs us m d w h h' _ _ _=> ?_⟩
  cases fs with
  |nil=>
   simp only[zh,Ku,List.isEmpty_iff]at h h';subst h;subst h';simp[Op.eqFields,P2]
  |cons f fs=>simp[Ku]at h
 |n+1=>by
  obtain⟨ih1,ih2⟩:=kh hE (M:=M) n;refine⟨fun t y cs cs' vs us m d w ht h h' hk hv hu=> ?_,fun fs o cs cs' vs us m d w h h' hn hv hu=> ?_⟩
  .obtain⟨i,ds,z0,i1,i2,i3,i4,i5,i6,i7,i8⟩:=Ct (hE t y ht)
   cases m with
   |zero=>simp[Program.keyTypeAt]at hk
   |succ m=>
    simp only[Hi,ht]at h h';have hagg:=i7;rw[OF,<-i4]at hagg;split at h
    .rename_i k hyk;rw[hyk]at hagg h';simp only at hagg h';split at h
     .rename_i k1 a;split at h'
      .rename_i k2 b;simp only[yc]at h h';subst h;subst h';simp only[Eb,RD]at hv hu;obtain⟨_,_,rfl,rfl,rfl⟩:=hv;obtain⟨_,_,rfl,rfl,rfl⟩:=hu;rw[i4]at hyk;have hds:=J0 hyk;subst hds;refine⟨?_,rfl⟩;simp only[mkT,hagg,q0F,zo,List.headD_cons];rw[show d+(m+1)=(d+m)+1 from rfl,run_equalIn_int w (d+m) t _ _ a b i2];simp[P2,eq1]
      .cases h'
     .cases h
    .rename_i hyk;rw[hyk]at hagg h';simp only at hagg h';split at h
     .rename_i a;split at h'
      .rename_i b;simp only[Eb,RD]at hv hu;obtain⟨_,_,rfl,rfl,rfl⟩:=hv;obtain⟨_,_,rfl,rfl,rfl⟩:=hu;rw[i4]at hyk;have hds:=I2 hyk;subst hds;refine⟨?_,rfl⟩;simp only[mkT,hagg,q0F,zo,List.headD_cons];rw[show d+(m+1)=(d+m)+1 from rfl,run_equalIn_string w (d+m) t _ _ i2];simp[P2,eq1]
      .cases h'
     .cases h
    .rename_i hyk;rw[hyk]at hagg h';simp only at hagg h';split at h
     .rename_i a;split at h'
      .rename_i b;simp only[Eb,RD]at hv hu;obtain⟨_,_,rfl,rfl,rfl⟩:=hv;obtain⟨_,_,rfl,rfl,rfl⟩:=hu;rw[i4]at hyk;have hds:=OG hyk;subst hds;refine⟨?_,rfl⟩;simp only[mkT,hagg,q0F,zo,List.headD_cons];rw[show d+(m+1)=(d+m)+1 from rfl,run_equalIn_bool w (d+m) t a b i2];simp[P2,eq1]
      .cases h'
     .cases h
    .rename_i fs hyk;rw[hyk]at hagg h';simp only at hagg h';rw[i4]at hyk;obtain⟨q,rfl,rfl⟩:=Pa hyk;unfold Program.keyTypeAt at hk;simp only[i2,yU,q0H]at hk;have hfs:P.fieldsOf t=q:=by simp[Program.fieldsOf,i2]
     obtain⟨r1,r2⟩:=ih2 q.toList 0 cs cs' vs us m d w h h' (fun f hf=>by
      have:=Array.all_eq_true_iff_forall_mem.1 hk.1.1 f (Array.mem_toList_iff.1 hf);simp only[yU,bne_iff_ne,ne_eq]at this
      exact this) hv hu
     refine⟨?_,r2⟩;simp only[mkT,hagg,zx];rw[show d+(m+1)=(d+m)+1 from rfl,run_equalIn_struct w (d+m) t _ _ (by rw[hfs];exact i2) hk.2,hfs];exact r1
    .rename_i len e hyk;rw[hyk]at hagg h';simp only at hagg h';split at h
     .rename_i z hz;simp only[hz]at h';simp only[yU,q0H]at h h';obtain⟨⟨⟨hs,hza⟩,hl⟩,hall⟩:=h;obtain⟨⟨⟨_,_⟩,hl'⟩,hall'⟩:=h';have hs:=zH hs;have hl:=zH hl;have hl':=zH hl';rw[i4]at hyk;have hds:=Iz hyk;subst hds;unfold Program.keyTypeAt at hk;simp only[i2]at hk;obtain⟨iz,dz,zz,j1,j2,j3,j4,j5,j6,j7,j8⟩:=Ct (hE e z hz)
      have hcell:P.cellsOf e=1:=by
       simp[Program.cellsOf,j1,<-j5,hs]
      refine⟨?_,om⟩;simp only[mkT,hagg,zx];rw[show d+(m+1)=(d+m)+1 from rfl,run_equalIn_array w (d+m) _ _ i2 j1,hcell]
      have key:∀(k o:Nat)(cs cs':yo),cs.length=k->cs'.length=k->cs.all (fun c=>Hi E n e [c])=true->cs'.all (fun c=>Hi E n e [c])=true->Eb M cs (vs.drop o)->Eb M cs' (us.drop o)->
        (Op.eqItems (d+m) e 1 vs.toArray us.toArray (List.range' o k)).run P w= .ok (P2 cs cs') w:=by
       intro k
       induction k with
       |zero=>
        intro o cs cs' h1 h2 _ _ _ _;have h1:=q1F.1 h1;have h2:=q1F.1 h2;subst h1;subst h2;simp[Op.eqItems,P2]
       |succ k ih=>
        intro o cs cs' h1 h2 a1 a2 hv hu
        match cs,cs',h1,h2 with
        |x::cs,x'::cs',h1,h2=>
         simp only[q0j,yU]at a1 a2;have hv':=hv;have hu':=hu;simp only[Eb]at hv hu;obtain⟨v,vr,hv1,hv2,hv3⟩:=hv;obtain⟨u,ur,hu1,hu2,hu3⟩:=hu
         have lv:o<vs.length:=by
          have:=congrArg List.length hv1;simp at this;omega
         have lu:o<us.length:=by
          have:=congrArg List.length hu1;simp at this;omega
         rw[q0h];simp only[Op.eqItems,Nat.mul_one,zf];simp only[R3 (hE e z hz) w vs o (fun _=>lv) (fun _=>hs),R3 (hE e z hz) w us o (fun _=>lu) (fun _=>hs),zQ];have tv:Eb M [x] ((vs.drop o).take z.size):=by have:=Nj hv' 1;rw[hs];exact this
         have tu:Eb M [x'] ((us.drop o).take z.size):=by have:=Nj hu' 1;rw[hs];exact this
         obtain⟨r1,_⟩:=ih1 e z [x] [x'] _ _ m d w hz a1.1 a2.1 hk (tv) (tu);rw[r1];simp only[zQ];have hrest:=ih (o+1) cs cs' (by simpa using h1) (by simpa using h2) a1.2 a2.2 (by have:=Ni hv' 1;simpa[List.drop_drop]using this) (by have:=Ni hu' 1;simpa[List.drop_drop]using this);have e1:P2 (x::cs) (x'::cs')=(P2 [x] [x']&&P2 cs cs'):=by simp[P2]
         rw[e1]
         cases P2 [x] [x']with
         |false=>simp
         |true=>simpa using hrest
      rw[List.range_eq_range'];exact key len 0 cs cs' hl hl' hall hall' hv hu
     .simp at h
    .cases h
  .cases fs with
   |nil=>
    simp only[zh,Ku,List.isEmpty_iff]at h h';subst h;subst h';simp[Op.eqFields,P2]
   |cons f fs=>
    simp only[zV,Ku]at h h';split at h
    .rename_i z hz;simp only[hz]at h';simp only[yU]at h h';obtain⟨⟨⟨ho,hle⟩,hf⟩,hr⟩:=h;obtain⟨⟨⟨_,hle'⟩,hf'⟩,hr'⟩:=h';have ho:=zH ho;have hle:=q0X hle;have hle':=q0X hle';obtain⟨nm,kt⟩:=hn f sm;obtain⟨iz,dz,zz,j1,j2,j3,j4,j5,j6,j7,j8⟩:=Ct (hE f.type z hz);have lenv:=(FA.1 hv).1;have lenu:=(FA.1 hu).1
     have one:z.agg=false->z.size=1:=fun ha=>by
      rcases Y0 hz hf ha with h|⟨q,h⟩|⟨a,b,h⟩
      .have:=h;rw[q09]at this;rcases Y0 hz hf' ha with h'|⟨q,h'⟩|⟨a,b,h'⟩
       .rw[q09]at h';omega
       .rw[OF,<-j4,h']at j7;rw[ha]at j7;cases j7
       .rw[OF,<-j4,h']at j7;rw[ha]at j7;cases j7
      .rw[OF,<-j4,h]at j7;rw[ha]at j7;cases j7
      .rw[OF,<-j4,h]at j7;rw[ha]at j7;cases j7
     have lt:z.agg=false->f.offset<vs.length/\f.offset<us.length:=fun ha=>by
      have:=one ha;simp only[q15]at lenv lenu;omega
     obtain⟨r1,r2⟩:=ih1 f.type z _ _ _ _ m d w hz hf hf' kt (Nj hv z.size) (Nj hu z.size);obtain⟨s1,s2⟩:=ih2 fs (o+z.size) _ _ vs us m d w hr hr' (fun g hg=>hn g (by simp[hg])) (by have:=Ni hv z.size;rwa [List.drop_drop]at this) (by have:=Ni hu z.size;rwa [List.drop_drop]at this)
     have e1:P2 cs cs'=(P2 (cs.take z.size) (cs'.take z.size)&&P2 (cs.drop z.size) (cs'.drop z.size)):=by
      rw[<-dL r2,q0J,q0J]
     refine⟨?_,by simp only[q15]at s2;omega⟩;subst ho;simp only[Op.eqFields,nm,ne_eq,not_false_eq_true,zx,zf];simp only[R3 (hE f.type z hz) w vs _ (fun ha=>(lt ha).1) one,R3 (hE f.type z hz) w us _ (fun ha=>(lt ha).2) one,zQ,r1,e1]
     cases P2 (cs.take z.size) (cs'.take z.size)with
     |false=>simp
     |true=>simpa using s1
    .simp at h
def SL(E:Nat->Option Bd)(H:yz)(t:Nat)(x y:AV):Option (Bool×Bool):=
 match E t with
 |none=>none
 |some q=>match q.eq with
  |true=>match x,y with
   | .d (.agg cs),.d (.agg cs')=>some (Hi E 40 t cs&&Hi E 40 t cs',P2 cs cs')
   |_,_=>none
  |false=>match uT E H t x y with
   |some r=>some (true,r)
   |none=>none
theorem ko(hE:CV P E)(h:SL E G.H t x y=some (c,r))(hc:c=true)(hx:RV G x v)(hy:RV G y u):
  (Op.equal t v u).run P w= .ok r w/\(∀k n,v≠ .int k n)/\(∀k n,v≠ .float k n)/\(∀s,v≠ .string s)/\(∀k a b,v≠ .complex k a b)/\(((∀a,v≠ .agg a)/\v≠ .nilIface)\/(∃a b,v= .agg a/\u= .agg b/\P.eqGuardType P.depth t=false)):=by
 unfold SL at h;split at h
 .cases h
 .rename_i q hq;split at h
  .rename_i he;split at h
   .rename_i cs cs';simp only[yh,zL]at h;obtain⟨h1,rfl⟩:=h;rw[hc,yU]at h1;obtain⟨e1,e2,e3⟩:=rK (hE t q hq) he;simp only[RV,RD]at hx hy;obtain⟨vs,rfl,hvs⟩:=hx;obtain⟨us,rfl,hus⟩:=hy;obtain⟨r1,_⟩:=(kh hE (M:=G.m) 40).1 t q cs cs' vs us 40 9960 w hq h1.1 h1.2 e2 hvs hus;simp only[mkT,e1,zx]at r1;exact⟨r1,sm,sm,sm,sm,.inr ⟨_,_,rfl,rfl,e3⟩⟩
   .cases h
  .split at h
   .rename_i r' hr;simp only[yh,zL]at h;obtain⟨_,rfl⟩:=h;obtain⟨g1,g2,g3,g4,g5,g6,g7⟩:=qM hE (w:=w) hr hx hy;exact⟨g1,g2,g3,g4,g5,.inl ⟨g6,g7⟩⟩
   .cases h
end Go.Gar
namespace Go.Gar
def g8(E:Nat->Option Bd)(e:Nat):Bool:=
 match E e with
 |some y=>match y.k with
  | .int .u8=>true
  |_=>false
 |none=>false
variable {P:Program}{E:Nat->Option Bd}
theorem I1(hE:CV P E){e:Nat}(h:g8 E e=true):P.underlying e=some (.int .u8):=by
 unfold g8 at h;split at h
 .rename_i y hy;split at h
  .rename_i hk;obtain⟨i,d,z,h1,h2,h3,h4,_⟩:=Ct (hE e y hy);rw[hk]at h4;have:=J0 h4.symm;rw[h2,this]
  .cases h
 .cases h
def aG(E:Nat->Option Bd)(H:yz)(src dst:Nat)(x:AV):yy:=
 match E src,E dst with
 |some s,some d=>match d.k with
  | .int k'=>match x with
   | .d (.i _ n)=>some (Ho k' n,.d (.i k' (Hv k' n)))
   |_=>none
  | .str=>match x with
   | .d (.s l)=>some (true,.d (.s l))
   | .d (.by l)=>match s.k with
    | .sl e=>some (g8 E e,.d (.s l))
    |_=>none
   | .e0=>match s.k with
    | .sl e=>some (g8 E e,.d (.s []))
    |_=>none
   | .sl id n _=>match s.k,H[id]? with
    | .sl e,some (.a (.by l))=>some (g8 E e&&Nat.beq n l.length,.d (.s l))
    |_,_=>none
   |_=>none
  | .sl e=>match x with
   | .d (.s l)=>match s.k with
    | .str=>some (g8 E e,.d (.by l))
    |_=>none
   |_=>none
  |_=>none
 |_,_=>none
theorem Wy(l:AT):strOfNums (l.map fun x=>(x.toNat:Int))=⟨l.toArray⟩:=by
 apply ByteArray.ext;apply Array.ext';rw[strOfNums_data]
 induction l with
 |nil=>rfl
 |cons x r ih=>simp at ih|-;exact ih
theorem Tn{src dst e:Nat}(hs:P.underlying src=some (.slice e))(he:P.underlying e=some (.int .u8))(hd:P.underlying dst=some .string)(w:World){b off n cap:Nat}{l:AT}(hn:n=l.length)(hc:∀(k:Nat)(x:UInt8),l[k]? =some x->w.cell? ⟨b,off+k,none⟩=some (.int .u8 (x.toNat:Int))):
  (convert src dst (.slice (some ⟨b,off,none⟩) n cap)).run P w= .ok (.string ⟨l.toArray⟩) w:=by
 subst hn
 have:=run_convert_bytes_arg (P:=P) w src e hs he b off l.length cap (l.map fun x=>(x.toNat:Int)) sm (fun i hi=>by
  rw[hc i l[i] (by simp[hi])]
  simp[hi]) dst hd
 rw[this,Wy]
variable {G:Gh}{x:AV}{v:Value}
theorem fV(hE:CV P E){w:World}(hr:B9 G w){src dst:Nat}{y:AV}{c:Bool}(h:aG E G.H src dst x=some (c,y))(hc:c=true)(hx:RV G x v):
  Yields P G w (convert src dst v) y:=by
 subst hc;unfold aG at h;split at h
 .rename_i s d hs' hd';obtain⟨ds,hds,hks,hus⟩:=As (hE src s hs') w;obtain⟨dd,hdd,hkd,hud⟩:=As (hE dst d hd') w;split at h
  .rename_i k' hk;rw[hk]at hkd;have hkd:=J0 hkd;subst hkd;split at h
   .rename_i k n;simp only[yh,zL]at h;obtain⟨hf,rfl⟩:=h;simp only[RV,RD]at hx;subst hx;refine Yields.still hr (u:=.int k' (k'.wrap n)) ?_ (by simp[RV,RD,Jq hf]);simp only[convert,zf,hds,hdd,zQ,Conv.intToInt,zk]
   .cases h
  .rename_i hk;rw[hk]at hkd;have hkd:=I2 hkd;subst hkd;split at h
   .rename_i l;cases h;simp only[RV,RD]at hx;subst hx;refine Yields.still hr (u:=.string ⟨l.toArray⟩) ?_ (by simp[RV,RD]);simp only[convert,zf,hds,hdd,zQ,zk]
   .rename_i l;split at h
    .rename_i e hke;simp only[yh,zL]at h;obtain⟨hu,rfl⟩:=h;rw[hke]at hks;have hks:=Eh hks;subst hks;simp only[RV,RD,cT,ZX,zY]at hx;obtain⟨a,cap,rfl,hcap,hx⟩:=hx;refine Yields.still hr (u:=.string ⟨l.toArray⟩) ?_ (by simp[RV,RD]);rcases hx with hx|⟨b,off,rfl,hx⟩
     .have:l=[]:=by simpa using hx
      subst this
      cases a with
      |none=>exact run_convert_bytes_nil w src e hus (I1 hE hu) _ _ dst hud
      |some a=>
       rw[run_convert_bytes_string w src dst e _ _ _ hus (I1 hE hu) hud,run_bytesToString w _ _ _ [] (by simp[loadCells,loadCellsFrom])];rfl
     .exact Tn hus (I1 hE hu) hud w rfl (fun k q hq=>hr.mem _ _ _ (hx k _ (by simp[hq])))
    .cases h
   .split at h
    .rename_i e hke;simp only[yh,zL]at h;obtain⟨hu,rfl⟩:=h;rw[hke]at hks;have hks:=Eh hks;subst hks;simp only[RV]at hx;obtain⟨a,rfl⟩:=hx;refine Yields.still hr (u:=.string ⟨([]:AT).toArray⟩) ?_ (by simp[RV,RD])
     cases a with
     |none=>exact run_convert_bytes_nil w src e hus (I1 hE hu) _ _ dst hud
     |some a=>
      rw[run_convert_bytes_string w src dst e _ _ _ hus (I1 hE hu) hud,run_bytesToString w _ _ _ [] (by simp[loadCells,loadCellsFrom])];rfl
    .cases h
   .rename_i id n sz;split at h
    .rename_i e l hke hb;simp only[yh,zL,yU]at h;obtain⟨⟨hu,hn⟩,rfl⟩:=h;have hn:=zH hn;rw[hke]at hks;have hks:=Eh hks;subst hks;simp only[RV]at hx;obtain⟨_,blk,hb',hp⟩:=hx;rw[hb]at hb';cases hb';obtain⟨g1,g2,g3⟩:=hp;refine Yields.still hr (u:=.string ⟨l.toArray⟩) ?_ (by simp[RV,RD]);rcases g3 (by simpa[B3]using hn)with⟨g4,a,rfl⟩|⟨b,N,cap,g4,rfl,_⟩
     .have:l=[]:=q1D om;subst this
      cases a with
      |none=>exact run_convert_bytes_nil w src e hus (I1 hE hu) _ _ dst hud
      |some a=>
       rw[run_convert_bytes_string w src dst e _ _ _ hus (I1 hE hu) hud,run_bytesToString w _ _ _ [] (by simp[loadCells,loadCellsFrom])];rfl
     .obtain⟨k1,k2,k3⟩:=hr.blk id _ hb;rcases k3 with⟨k3,k4⟩|⟨b',N',vs,T,k4,k5,k6,k7⟩
      .rw[g4]at k4;cases k4
      .rw[g4]at k4;cases k4;refine Tn hus (I1 hE hu) hud w hn (fun k q hq=> ?_);obtain⟨u,hu',_,hd⟩:=k7 k (.i .u8 q.toNat) (by simp[slc,hq]);simp only[RD]at hd;rw[q0M,DT k5,hu',hd]
    .cases h
   .cases h
  .rename_i e hk;rw[hk]at hkd;have hkd:=Eh hkd;subst hkd;split at h
   .rename_i l;split at h
    .rename_i hke;simp only[yh,zL]at h;obtain⟨hu,rfl⟩:=h;rw[hke]at hks;have hks:=I2 hks;subst hks;simp only[RV,RD]at hx;subst hx;have hsz:(⟨l.toArray⟩:ByteArray).size=l.length:=by simp[ByteArray.size]
     obtain⟨hr1,hf1⟩:=Qo hr (w.drawn+1)
     obtain⟨hr2,hf2⟩:=WQ hr1 (bytesRow ⟨l.toArray⟩ (grownCap w (⟨l.toArray⟩:ByteArray).size 0 e)) e ((bytesRow ⟨l.toArray⟩ (grownCap w (⟨l.toArray⟩:ByteArray).size 0 e)).size,(bytesRow ⟨l.toArray⟩ (grownCap w (⟨l.toArray⟩:ByteArray).size 0 e)).size+1) (ZX l) (fun k v hv=>by
      simp only[ZX,q03,q0B]at hv;obtain⟨q,hq,rfl⟩:=hv;have hlt:=(yZ.1 hq).1;have hlq:=(yZ.1 hq).2;simp only[bytesRow];rw[q1a (by simpa using hlt)]
      simp[hlt,hlq])
     refine⟨_,_,G.lay w.heap.size (ZX l),run_bytes_of_string w src dst e ⟨l.toArray⟩ hus hud (I1 hE hu),?_,rfl,hr2,hf1.trans hf2⟩;have e1:(ZX l).length=(⟨l.toArray⟩:ByteArray).size:=by rw[hsz];simp[ZX]
     simp only[RV,RD,cT];refine⟨_,_,by rw[e1],by rw[e1];exact grownCap_ge _ _ _ _,.inr ⟨w.heap.size,0,rfl,fun k x hx=> ?_⟩⟩;show(if w.heap.size=w.heap.size then(ZX l)[0+k]? else _)=_;rw[zN rfl,q0M,hx]
    .cases h
   .cases h
  .cases h
 .cases h
def AV.cells:AV->yq
 | .ag cs=>cs
 | .d (.agg cs)=>cs.map .d
 |x=>[x]
def YQ:yo->Option (yq)
 |[]=>some []
 |d::r=>match YQ r with
  |some l=>some (.d d::l)
  |none=>none
def PK:AV->Option (yq)
 | .ag cs=>some cs
 | .d (.agg cs)=>YQ cs
 | .u| .tup _| .d (.tup _)=>none
 |x=>some [x]
theorem YR:∀{ds:yo}{l:yq},YQ ds=some l->l=ds.map .d
 |[],l,h=>by simp[YQ]at h;subst h;rfl
 |d::ds,l,h=>by
  simp only[YQ]at h;split at h
  .rename_i q hq;cases h;rw[YR hq];rfl
  .cases h
def AV.one:AV->Bool
 | .u| .ag _| .tup _| .d (.agg _)| .d (.tup _)=>false
 |_=>true
theorem aw(h:x.one=true)(hx:RV G x v):v.oneCell'=true:=by
 cases x<;>simp only[AV.one,reduceCtorEq]at h<;>simp only[RV]at hx
 .rename_i d;cases d<;>simp only[AV.one,reduceCtorEq]at h<;>simp only[RD]at hx
  all_goals first
   |(subst hx;rfl)
   |exact hx.1▸hx.2
   |(obtain⟨a,cap,rfl,_⟩:=hx;rfl)
 .exact hx.1
 .exact hx.1
 .exact hx.1
 .exact hx.1
 .obtain⟨a,rfl⟩:=hx;rfl
 .obtain⟨p,q,rfl,_⟩:=hx;rfl
 .exact hx.1
 .obtain⟨b,off,rfl,_⟩:=hx;rfl
 .exact hx.1
theorem cells_one(h:v.oneCell'=true):v.cells= #[v]:=by cases v<;>simp_all[Value.cells,Value.oneCell']
theorem I7{l:yq}(h:PK x=some l)(hx:RV G x v):BP G l v.cells.toList:=by
 have key:x.one=true->l=[x]->BP G l v.cells.toList:=by
  intro h1 h2;subst h2;rw[cells_one (aw h1 hx)];simp only[BP];exact⟨v,[],rfl,hx,rfl⟩
 unfold PK at h;split at h
 .cases h;simp only[RV]at hx;obtain⟨vs,rfl,hvs⟩:=hx;simpa[Value.cells]using hvs
 .rename_i cs;have:=YR h;subst this;simp only[RV,RD]at hx;obtain⟨vs,rfl,hvs⟩:=hx;rw[Q5];simpa[Value.cells]using hvs
 .cases h
 .cases h
 .cases h
 .cases h;refine key ?_ rfl;cases x<;>simp_all[AV.one]
end Go.Gar
namespace Go.Gar
def Gh.own(G:Gh)(b N:Nat)(blk:AF):Gh:={ρ:=fun id=>if id=G.H.length then some (b,N)else G.ρ id,H:=G.H++[blk],m:=G.m}
variable {G:Gh}{id:Nat}{q:AF}
theorem HD{b N:Nat}{blk:AF}(h:(G.own b N blk).H[id]? =some q):(id<G.H.length/\G.H[id]? =some q/\(G.own b N blk).ρ id=G.ρ id)\/(id=G.H.length/\q=blk/\(G.own b N blk).ρ id=some (b,N)):=by
 have h:(G.H++[blk])[id]? =some q:=h;rcases Nat.lt_trichotomy id G.H.length with hlt|heq|hgt
 .rw[zW hlt]at h;exact .inl ⟨hlt,h,by simp[Gh.own,Nat.ne_of_lt hlt]⟩
 .subst heq;simp at h;exact .inr ⟨rfl,h.symm,by simp[Gh.own]⟩
 .rw[zl om]at h;rw[q0R (by simp;omega)]at h;cases h
theorem M6(G:Gh)(b N:Nat)(blk:AF):Iq G (G.own b N blk) where
 blk id q hq:=by
  have hlt:=(yZ.1 hq).1;refine⟨q,by show(G.H++[blk])[id]? =some q;rw[zW hlt];exact hq,?_⟩;have hρ:(G.own b N blk).ρ id=G.ρ id:=by simp[Gh.own,Nat.ne_of_lt hlt]
  cases q<;>simp[Ap,hρ]
 mem:=Mem.le_refl _
variable {w:World}
theorem TK(h:B9 G w)(cur:yd)(T:TypeId)(blk:AF)(hB:BR (G.own w.heap.size cur.size blk) (w.alloc (.cells cur T)) G.H.length blk)(hnm:∀rs,blk≠ .many rs:=by intro _ e;cases e):
  B9 (G.own w.heap.size cur.size blk) (w.alloc (.cells cur T))/\D4 G w (G.own w.heap.size cur.size blk) (w.alloc (.cells cur T)):=by
 have hg:=M6 G w.heap.size cur.size blk
 have hS:∀(id:Nat)(rs:List (Option (Nat×Nat×AT))),(G.own w.heap.size cur.size blk).H[id]? =some (.many rs)->G.H[id]? =some (.many rs):=by
  intro id rs hq;rcases HD hq with⟨_,h2,_⟩|⟨_,h2,_⟩
  .exact h2
  .exact absurd h2.symm (hnm rs)
 have hP:∀b,EX (G.own w.heap.size cur.size blk) b->EX G b\/b=w.heap.size:=by
  rintro b ⟨id,N,q,hq,hl,hρ⟩;rcases HD hq with⟨_,h2,h3⟩|⟨_,_,h3⟩
  .exact .inl ⟨id,N,q,h2,hl,by rw[<-h3];exact hρ⟩
  .rw[h3]at hρ;cases hρ;exact .inr rfl
 have hold:=Wh hS hP;refine⟨⟨?_,?_,?_,?_,h.st,h.mny.of (fun b hb=>Bq h (.inr hb)) hS (fun b hb=>(hP b hb).imp_right (fun e=>Nat.le_of_eq e.symm))⟩,⟨rfl,rfl,rfl,sm,?_,fun b k v hv=> .inl hv,hg⟩⟩
 .intro id q hq;rcases HD hq with⟨h1,h2,h3⟩|⟨h1,h2,h3⟩
  .refine(h.blk id q h2).QH hg (fun b N hl hρ=> ?_) h3 (fun rs e c hc=>q1U w _ c (Bq h (.inr ⟨id,rs,by rw[<-e];exact h2,hc⟩)));exact q1U w _ b (Bq h (.inl ⟨id,N,q,h2,hl,hρ⟩))
  .subst h1;subst h2;exact hB
 .intro id id' p q b N N' hp hq lp lq r1 r2;rcases HD hp with⟨h1,h2,h3⟩|⟨h1,h2,h3⟩<;>rcases HD hq with⟨k1,k2,k3⟩|⟨k1,k2,k3⟩
  .rw[h3]at r1;rw[k3]at r2;exact h.inj id id' p q b N N' h2 k2 lp lq r1 r2
  .rw[h3]at r1;rw[k3]at r2;cases r2;have:=Bq h (.inl ⟨id,N,p,h2,lp,r1⟩);omega
  .rw[h3]at r1;rw[k3]at r2;cases r1;have:=Bq h (.inl ⟨id',N',q,k2,lq,r2⟩);omega
  .omega
 .intro b k v hv;have hv:G.m b k=some v:=hv;rw[World.cell?_alloc_lt _ _ _ (IX h hv)];exact h.mem b k v hv
 .intro b ho k;show G.m b k=none;rcases hold b ho with h1|rfl
  .exact h.sep b h1 k
  .cases hv:G.m w.heap.size k with
   |none=>rfl
   |some v=>have:=IX h hv;omega
 .intro b hb ho;refine⟨q1U w _ b hb,fun h1=> ?_⟩;rcases hold b h1 with h1|rfl
  .exact ho h1
  .omega
def H9(P:Program)(G:Gh)(w:World)(s:Sem Value)(y:AV)(H':yz):Prop:=
 ∃u w' G',s.run P w= .ok u w'/\RV G' y u/\G'.H=H'/\B9 G' w'/\D4 G w G' w'
theorem BP.NG{xs:yq}{vs:y6}(h:BP G xs vs):vs.length=xs.length:=(Dn.1 h).1
variable {P:Program}{cs:yq}
theorem V5(hr:B9 G w)(T:TypeId){v:Value}(hc:BP G cs v.cells.toList):
  ∃w' G',(newVar T v).run P w= .ok ⟨w.heap.size,0,none⟩ w'/\RV G' (.ptr G.H.length 0 cs.length) (.pointer (some ⟨w.heap.size,0,none⟩))/\G'.H=G.H++[.c cs]/\B9 G' w'/\D4 G w G' w':=by
 have hl:v.cells.size=cs.length:=by have:=BP.NG hc;simpa using this
 have hgl:=M6 G w.heap.size v.cells.size (.c cs)
 obtain⟨h1,h2⟩:=TK hr v.cells T (.c cs) (by
  refine⟨w.heap.size,v.cells.size,v.cells,T,by simp[Gh.own],heap_alloc_new w _,rfl,om,fun k x hx=> ?_⟩;obtain⟨u,hu,hrv⟩:=(Dn.1 hc).2 k x hx
  exact⟨u,by simpa using hu,hrv.mono hgl⟩)
 refine⟨_,_,rfl,?_,rfl,h1,h2⟩;simp only[RV];exact⟨rfl,.c cs,by simp[Gh.own],rfl,w.heap.size,v.cells.size,by simp[Gh.own],rfl⟩
def ki(E:Nat->Option Bd)(T:Nat)(x:AV):Option (yq):=
 match E T with
 |none=>none
 |some _=>PK x
variable {E:Nat->Option Bd}
theorem kj(hr:B9 G w){T:Nat}{x:AV}(h:ki E T x=some cs){v:Value}(hx:RV G x v):
  H9 P G w (Instr.box T v) (.ptr G.H.length 0 cs.length) (G.H++[.c cs]):=by
 unfold ki at h;split at h
 .cases h
 .obtain⟨w',G',h1,h2,h3,h4,h5⟩:=V5 (P:=P) hr T (I7 h hx);exact⟨_,w',G',by simp[Instr.box,h1],h2,h3,h4,h5⟩
def U3:y6->Option (yq)
 |[]=>some []
 |v::r=>match au v,U3 r with
  |some x,some l=>some (x::l)
  |_,_=>none
theorem Oq{G:Gh}:∀{vs:y6}{l:yq},U3 vs=some l->BP G l vs
 |[],l,h=>by simp[U3]at h;subst h;simp[BP]
 |v::r,l,h=>by
  simp only[U3]at h;split at h
  .rename_i x q h1 h2;cases h;simp only[BP];exact⟨v,r,rfl,Wc h1,Oq h2⟩
  .cases h
def Vw(E:Nat->Option Bd)(T:Nat):Option (yq):=
 match E T with
 |none=>none
 |some y=>U3 y.zero
theorem aD(hE:CV P E)(hr:B9 G w){T:Nat}(h:Vw E T=some cs):
  H9 P G w (Instr.alloc T true (.tuple #[])) (.ptr G.H.length 0 cs.length) (G.H++[.c cs]):=by
 unfold Vw at h;split at h
 .cases h
 .rename_i y hy;obtain⟨z,hz,hzc⟩:=FF (hE T y hy) w;obtain⟨w',G',h1,h2,h3,h4,h5⟩:=V5 (P:=P) hr T (v:=z) (by rw[hzc];exact Oq h);exact⟨_,w',G',by simp[Instr.alloc,hz,h1],h2,h3,h4,h5⟩
def UJ:Nat->yq->yq->Option (yq)
 |0,[],l=>some l
 |0,x::xs,_::l=>match UJ 0 xs l with
  |some r=>some (x::r)
  |none=>none
 |0,_::_,[]=>none
 |n+1,xs,y::l=>match UJ n xs l with
  |some r=>some (y::r)
  |none=>none
 |_+1,_,[]=>none
def setH:Nat->AF->yz->Option (yz)
 |0,b,_::l=>some (b::l)
 |n+1,b,y::l=>match setH n b l with
  |some r=>some (y::r)
  |none=>none
 |_,_,[]=>none
theorem Oi:∀{n:Nat}{xs l r:yq},UJ n xs l=some r->n+xs.length<=l.length/\r=l.take n++xs++l.drop (n+xs.length)
 |0,[],l,r,h=>by simp[UJ]at h;subst h;simp
 |0,x::xs,y::l,r,h=>by
  simp only[UJ]at h;split at h
  .rename_i q hq;cases h;obtain⟨h1,h2⟩:=Oi hq;refine⟨by simp at h1|-;omega,?_⟩;simp at h2|-;rw[h2]
  .cases h
 |0,x::xs,[],r,h=>by simp[UJ]at h
 |n+1,xs,y::l,r,h=>by
  simp only[UJ]at h;split at h
  .rename_i q hq;cases h;obtain⟨h1,h2⟩:=Oi hq;refine⟨by simp;omega,?_⟩;rw[h2,show n+1+xs.length=n+xs.length+1 by omega];simp
  .cases h
 |n+1,xs,[],r,h=>by simp[UJ]at h
theorem J7:∀{n:Nat}{b:AF}{l r:yz},setH n b l=some r->n<l.length/\r=l.set n b
 |0,b,y::l,r,h=>by simp[setH]at h;subst h;simp
 |n+1,b,y::l,r,h=>by
  simp only[setH]at h;split at h
  .rename_i q hq;cases h;obtain⟨h1,h2⟩:=J7 hq;exact⟨by simpa using h1,by simp[h2]⟩
  .cases h
 |0,b,[],r,h=>by simp[setH]at h
 |n+1,b,[],r,h=>by simp[setH]at h
def Gh.put(G:Gh)(id:Nat)(b:AF):Gh:={G with H:=G.H.set id b}
theorem R5{o:AF}(ho:G.H[id]? =some o)(hs:Ap G (G.put id q) id o q):Iq G (G.put id q):=by
 have hid:id<G.H.length:=(yZ.1 ho).1;refine⟨fun j p hp=> ?_,Mem.le_refl _⟩
 by_cases e:j=id
 .subst e;rw[ho]at hp;cases hp;exact⟨q,by show(G.H.set j q)[j]? =some q;rw[q08 hid],hs⟩
 .exact⟨p,by show(G.H.set id q)[j]? =some p;rw[q06 (Ne.symm e)];exact hp,by cases p<;>simp[Ap,Gh.put]⟩
theorem NU(h:B9 G w){b N:Nat}{o:AF}{cur:yd}(ho:G.H[id]? =some o)(hl:o.live=true)(hl':q.live=true)(hρ:G.ρ id=some (b,N))(hs:Ap G (G.put id q) id o q)(hB:BR (G.put id q) (w.setRow b cur) id q):B9 (G.put id q) (w.setRow b cur)/\D4 G w (G.put id q) (w.setRow b cur):=by
 have hid:id<G.H.length:=(yZ.1 ho).1
 have hget:∀{j:Nat}{p:AF},(G.put id q).H[j]? =some p->(j=id/\p=q)\/(j≠id/\G.H[j]? =some p):=by
  intro j p hp;have hp:(G.H.set id q)[j]? =some p:=hp
  by_cases e:j=id
  .subst e;rw[q08 hid]at hp;cases hp;exact .inl ⟨rfl,rfl⟩
  .rw[q06 (Ne.symm e)]at hp;exact .inr ⟨e,hp⟩
 have hS:∀(j:Nat)(rs:List (Option (Nat×Nat×AT))),(G.put id q).H[j]? =some (.many rs)->G.H[j]? =some (.many rs):=by
  intro j rs hp;rcases hget hp with⟨_,e⟩|⟨_,hp⟩
  .rw[<-e]at hl';simp[AF.live]at hl'
  .exact hp
 have hP:∀c,EX (G.put id q) c->EX G c:=by
  rintro c ⟨j,M,p,hp,lp,hr⟩;rcases hget hp with⟨rfl,rfl⟩|⟨e,hp⟩
  .exact⟨j,M,o,ho,hl,hr⟩
  .exact⟨j,M,p,hp,lp,hr⟩
 have hown:∀c,Own (G.put id q) c↔Own G c:=by
  intro c;refine⟨JM hS hP c,?_⟩;rintro(⟨j,M,p,hp,lp,hr⟩|⟨j,rs,hp,hc⟩)
  .by_cases e:j=id
   .subst e;exact .inl ⟨j,M,q,by show(G.H.set j q)[j]? =some q;rw[q08 hid],hl',hr⟩
   .exact .inl ⟨j,M,p,by show(G.H.set id q)[j]? =some p;rw[q06 (Ne.symm e)];exact hp,lp,hr⟩
  .refine .inr ⟨j,rs,?_,hc⟩
   by_cases e:j=id
   .subst e;rw[ho]at hp;cases hp;simp[AF.live]at hl
   .show(G.H.set id q)[j]? =_;rw[q06 (Ne.symm e)];exact hp
 have hgl:Iq G (G.put id q):=⟨fun j p hp=>by
  by_cases e:j=id
  .subst e;rw[ho]at hp;cases hp;exact⟨q,by show(G.H.set j q)[j]? =some q;rw[q08 hid],hs⟩
  .exact⟨p,by show(G.H.set id q)[j]? =some p;rw[q06 (Ne.symm e)];exact hp,by cases p<;>simp[Ap,Gh.put]⟩,Mem.le_refl _⟩
 have hoth:∀c,c≠b->(w.setRow b cur).heap[c]? =w.heap[c]?:=fun c hc=>setRow_other w b c cur hc;refine⟨⟨?_,?_,?_,?_,h.st,h.mny.of (fun b hb=>Bq h (.inr hb)) hS (fun c hc=> .inl (hP c hc))⟩,⟨rfl,rfl,rfl,sm,?_,fun _ _ _ hv=> .inl hv,hgl⟩⟩
 .intro j p hp;rcases hget hp with⟨rfl,rfl⟩|⟨e,hp⟩
  .exact hB
  .refine(h.blk j p hp).QH hgl (fun c M lp hr=>hoth c ?_) rfl (fun rs e c hc=>hoth c fun e'=>by subst e';subst e;exact((h.mny j rs hp).2 c hc).1 ⟨id,N,o,ho,hl,hρ⟩);intro hcb;subst hcb;exact e (h.inj j id p o c M N hp ho lp hl hr hρ)
 .intro j j' p p' c M M' hp hp' lp lp' r1 r2;rcases hget hp with⟨e1,e2⟩|⟨e,hp2⟩<;>rcases hget hp' with⟨e3,e4⟩|⟨e',hp2'⟩
  .exact e1.trans e3.symm
  .subst e1;subst e2;exact h.inj _ _ o p' c M M' ho hp2' hl lp' r1 r2
  .subst e3;subst e4;exact h.inj _ _ p o c M M' hp2 ho lp hl r1 r2
  .exact h.inj _ _ p p' c M M' hp2 hp2' lp lp' r1 r2
 .intro c k v hv;have hv:G.m c k=some v:=hv
  have hcb:c≠b:=by
   intro e;subst e;rw[h.sep c (.inl ⟨id,N,o,ho,hl,hρ⟩) k]at hv;cases hv
  rw[World.cell?_of_block (w:=w) (hoth c hcb)];exact h.mem c k v hv
 .intro c hc k;exact h.sep c ((hown c).1 hc) k
 .intro c hc hno;refine⟨hoth c ?_,fun h1=>hno ((hown c).1 h1)⟩;intro e;subst e;exact hno (.inl ⟨id,N,o,ho,hl,hρ⟩)
theorem KQ{α β:Type}{R:α->β->Prop}{cs xs:List α}{vs us:List β}{off:Nat}(hle:off+xs.length<=cs.length)(hcl:cs.length<=vs.length)(hl:us.length=xs.length)
  (h1:∀(k:Nat)(x:α),cs[k]? =some x->∃v,vs[k]? =some v/\R x v) (h2:∀(k:Nat)(x:α),xs[k]? =some x->∃v,us[k]? =some v/\R x v):
  ∀(k:Nat)(x:α),(cs.take off++xs++cs.drop (off+xs.length))[k]? =some x->∃v,(vs.take off++us++vs.drop (off+us.length))[k]? =some v/\R x v:=by
 intro k x hx;have t1:(cs.take off).length=off:=by simp;omega
 have t2:(vs.take off).length=off:=by simp;omega
 rcases q0A k off with hk|hk
 .rw[zu,zW om,q0T,zN hk]at hx;obtain⟨v,hv,hr⟩:=h1 k x hx;refine⟨v,?_,hr⟩;rw[zu,zW om,q0T,zN hk];exact hv
 .rcases q0A k (off+xs.length)with hk2|hk2
  .rw[zu,zl om,t1,zW om]at hx;obtain⟨v,hv,hr⟩:=h2 _ x hx;refine⟨v,?_,hr⟩;rw[zu,zl om,t2,zW om];exact hv
  .rw[zl (by simp;omega),q0Y]at hx;have e1:off+xs.length+(k-(cs.take off++xs).length)=k:=by simp;omega
   rw[e1]at hx;obtain⟨v,hv,hr⟩:=h1 k x hx;refine⟨v,?_,hr⟩;rw[zl (by simp;omega),q0Y];have e2:off+us.length+(k-(vs.take off++us).length)=k:=by simp;omega
   rw[e2];exact hv
def GF:yq->Bool
 |[]=>true
 |x::r=>x.one&&GF r
def W6(E:Nat->Option Bd)(H:yz)(t:Nat)(a x:AV):Option (Bool×yz):=
 match E t with
 |none=>none
 |some y=>match PK x with
  |none=>none
  |some xs=>match a with
   | .ptr id off _=>match H[id]? with
    |some (.c cs)=>match UJ off xs cs with
     |some cs'=>match setH id (.c cs') H with
      |some H'=>some (Nat.beq xs.length y.size&&GF xs,H')
      |none=>none
     |none=>none
    |_=>none
   | .d (.raw (.pointer (some ⟨b,k,none⟩)))=>match xs,TJ H 0 with
    |[.d (.i .u8 m)],some (id,b',N,l)=>match setH id (.HW b' N (l.set k (UInt8.ofNat m.toNat))) H with
     |some H'=>some (Nat.beq b b'&&decide (k<l.length)&&Nat.beq y.size 1&&decide (0<=m)&&decide (m<256),H')
     |none=>none
    |_,_=>none
   | .ep id i off n sz=>match xs,H[id]? with
    |[.d d],some (.a (.sl sz' es))=>match setH id (.a (.sl sz' (es.set i ((es.getD i []).set off d)))) H with
     |some H'=>some (Nat.beq n es.length&&Nat.beq sz sz'&&decide (i<n)&&decide (off<sz)&&Nat.beq y.size 1&&(AV.d d).one,H')
     |none=>none
    |_,_=>none
   |_=>none
theorem UR{G:Gh}:∀{xs:yq}{vs:y6},GF xs=true->BP G xs vs->∀v∈vs,v.oneCell'=true
 |[],vs,_,h=>by simp only[BP]at h;subst h;simp
 |x::xs,vs,ho,h=>by
  simp only[BP]at h;simp only[GF,yU]at ho;obtain⟨v,r,rfl,h1,h2⟩:=h;intro u hu;rcases q0C.1 hu with rfl|hu
  .exact aw ho.1 h1
  .exact UR ho.2 h2 u hu
theorem Tv{α:Type}(l:List α)(i:Nat)(x:α)(h:i<l.length):l.take i++[x]++l.drop (i+1)=l.set i x:=by
 rw[List.set_eq_take_append_cons_drop,zN h];simp
theorem LD{sz:Nat}(d:D){off:Nat}(hoff:off<sz):∀{es:List (yo)}{i:Nat},(∀e∈es,e.length=sz)->i<es.length->(es.set i ((es.getD i []).set off d)).flatten=es.flatten.set (i*sz+off) d
 |[],_,_,h=>by simp at h
 |e::r,0,ho,_=>by
  have:=ho e sm;simp only[List.set_cons_zero,q0u,q0U,Nat.zero_mul,q0M];rw[List.set_append_left _ _ om]
 |e::r,i+1,ho,hi=>by
  have h1:=ho e sm;simp only[List.set_cons_succ,List.getD_cons_succ,q0U];rw[LD d hoff (fun x hx=>ho x (by simp[hx])) (by simpa using hi),List.set_append_right _ _ (by rw[h1,q0i];omega)]
  congr 2
  rw[h1,q0i];omega
theorem aN(hE:CV P E)(hr:B9 G w){t:Nat}{a x:AV}{c:Bool}{H':yz}(h:W6 E G.H t a x=some (c,H'))(hc:c=true){va vx:Value}(ha:RV G a va)(hx:RV G x vx):∃w' G',(Instr.storeAt t va vx).run P w= .ok () w'/\G'.H=H'/\B9 G' w'/\D4 G w G' w':=by
 subst hc;unfold W6 at h;split at h
 .cases h
 .rename_i y hy';have hy:=hE t y hy';split at h
  .cases h
  .rename_i xs hxs;split at h
   .rename_i id off cnt;split at h
    .rename_i cs hcs;split at h
     .rename_i cs' hset;split at h
      .rename_i q hq;simp only[yh,zL,yU]at h;obtain⟨⟨hsz,hone⟩,rfl⟩:=h;have hsz:=zH hsz;obtain⟨hid,rfl⟩:=J7 hq;obtain⟨hfit,rfl⟩:=Oi hset;simp only[RV]at ha;obtain⟨_,blk,hb,hp⟩:=ha;rw[hcs]at hb;cases hb;obtain⟨hcnt,b,N,hρ,rfl⟩:=hp;obtain⟨b',N',vs,T,hρ',hw,hN,hle,hcell⟩:=hr.blk id _ hcs;rw[hρ]at hρ';cases hρ';have hvs:=I7 hxs hx;have hvl:vx.cells.toList.length=xs.length:=BP.NG hvs;have hst:=run_storeCells_at P b off T vx.cells.toList 0 vs w hw (by simp;simp at hvl;omega) (UR hone hvs);simp only[q1B]at hst;have hlen':(cs.take off++xs++cs.drop (off+xs.length)).length=cs.length:=by simp;omega
       obtain⟨r1,r2⟩:=NU hr (cur:=(vs.toList.take off++vx.cells.toList++vs.toList.drop (off+vx.cells.toList.length)).toArray) hcs rfl (q:=.c (cs.take off++xs++cs.drop (off+xs.length))) rfl hρ (by simp[Ap,hlen',Gh.put];omega) (by
        refine⟨b,N,_,T,hρ,setRow_heap w b vs _ T _ hw,?_,by rw[hlen'];exact hle,fun k z hz=> ?_⟩
        .simp;simp at hvl;omega
        .have hgl:Iq G (G.put id (.c (cs.take off++xs++cs.drop (off+xs.length)))):=R5 hcs (by simp[Ap,hlen',Gh.put];omega);obtain⟨v,hv,hrv⟩:=KQ (R:=RV G) (vs:=vs.toList) (us:=vx.cells.toList) hfit (by simp;omega) hvl (fun k x hx=>by simpa using hcell k x hx) (Dn.1 hvs).2 k z hz
         exact⟨v,by simpa using hv,hrv.mono hgl⟩)
       refine⟨_,_,?_,rfl,r1,r2⟩;simp only[Instr.storeAt,Instr.sureAddr,zf,zk,zQ,storeVar,BV hy];rw[zO (by simp at hvl;omega)];exact hst
      .cases h
     .cases h
    .cases h
   .rename_i b k;split at h
    .rename_i m id b' N l ho;split at h
     .rename_i q hq;simp only[yh,zL,yU,yc]at h;obtain⟨⟨⟨⟨⟨e1,e2⟩,e3⟩,e4⟩,e5⟩,rfl⟩:=h;have e1:=zH e1;have e3:=zH e3;subst e1;obtain⟨hid,rfl⟩:=J7 hq;obtain⟨j,hj,hb⟩:=Pe ho;have hj:id=j:=om
      subst hj;obtain⟨vs,T,hρ,hw,hN,hle,hcell⟩:=hr.blk id _ hb;simp only[RV,RD]at ha;have hvs:=I7 hxs hx;simp only[BP,RV,RD]at hvs;obtain⟨v,r,hcl,rfl,rfl⟩:=hvs;have hst:=run_storeCells_at P b k T [.int .u8 m] 0 vs w hw (by simp;omega) (by simp[Value.oneCell']);simp only[q1B]at hst;have hmm:(UInt8.ofNat m.toNat).toNat=m.toNat:=by rw[q0o];omega
      obtain⟨r1,r2⟩:=NU hr (cur:=(vs.toList.take k++[Value.int .u8 m]++vs.toList.drop (k+1)).toArray) hb rfl (q:=.HW b N (l.set k (UInt8.ofNat m.toNat))) rfl hρ (by simp[Ap,Gh.put]) (by
       refine⟨_,T,hρ,setRow_heap w b vs _ T _ hw,by simp;omega,by simpa using hle,fun j z hz=> ?_⟩;rw[Tv _ _ _ (by simp;omega)];rw[q18]at hz;simp only[List.getElem?_toArray,q18]
       by_cases e:k=j
       .subst e;rw[zN rfl,zN e2]at hz;cases hz;rw[zN rfl,zN (by simp;omega),hmm]
        congr 2;omega
       .rw[zO e]at hz|-
        simpa using hcell j z hz)
      refine⟨_,_,?_,rfl,r1,r2⟩;rw[ha.1];simp only[Instr.storeAt,Instr.sureAddr,zf,zk,zQ,storeVar,BV hy];have hc1:vx.cells= #[Value.int .u8 m]:=by rw[<-Array.toArray_toList (xs:=vx.cells),hcl]
      rw[zO (by rw[hc1];simp[e3]),hcl];exact hst
     .cases h
    .cases h
   .rename_i id i off n sz;split at h
    .rename_i d sz' es hes;split at h
     .rename_i q hq;simp only[yh,zL,yU,yc]at h;obtain⟨⟨⟨⟨⟨⟨e1,e2⟩,e3⟩,e4⟩,e5⟩,e6⟩,rfl⟩:=h;have e1:=zH e1;have e2:=zH e2;have e5:=zH e5;subst e1;subst e2;obtain⟨hid,rfl⟩:=J7 hq;simp only[RV]at ha;obtain⟨_,blk,hb,hp⟩:=ha;rw[hes]at hb;cases hb;obtain⟨_,_,hp⟩:=hp;obtain⟨b,M,hρ,hva⟩:=hp rfl;obtain⟨g1,g2,hB⟩:=hr.blk id _ hes;rcases hB with⟨h0,hno⟩|⟨b',M',vs,T,hρ',hw,hM,hcell⟩
      .rw[hρ]at hno;cases hno
      rw[hρ]at hρ';cases hρ';have hlen:(slc (.sl sz es)).length=es.length*sz:=Gv rfl g2
      have hpos:i*sz+off<es.length*sz:=by
       have:(i+1)*sz<=es.length*sz:=q1b _ om;rw[q0i]at this;omega
      have hvl:i*sz+off<vs.size:=by
       obtain⟨v,hv,_⟩:=hcell (i*sz+off) _ (yj (by rw[hlen];exact hpos));exact(zZ.1 hv).1
      have hvs:=I7 hxs hx;simp only[BP]at hvs;obtain⟨v,r,hcl,hrd,rfl⟩:=hvs;have h1c:=aw e6 hrd;have hst:=run_storeCells_at P b (i*sz+off) T [v] 0 vs w hw (by simp;omega) (by simpa using h1c);simp only[q1B]at hst;have g2':∀e∈es,e.length=sz:=g2;have hfl:slc (.sl sz (es.set i ((es.getD i []).set off d)))=(slc (.sl sz es)).set (i*sz+off) d:=LD d e4 g2' e3
      obtain⟨r1,r2⟩:=NU hr (cur:=(vs.toList.take (i*sz+off)++[v]++vs.toList.drop (i*sz+off+1)).toArray) hes rfl (q:=.a (.sl sz (es.set i ((es.getD i []).set off d)))) rfl hρ (by simp[Ap,Gh.put,B3,Bt]) (by
       refine⟨rfl,?_,.inr ⟨b,M,_,T,hρ,setRow_heap w b vs _ T _ hw,by simp;omega,fun j z hz=> ?_⟩⟩
       .intro e he;rcases q0t he with he|rfl
        .exact g2' e he
        .rw[q0y,zJ,yj e3];exact g2' _ (q0a _)
       .rw[hfl,q18]at hz;rw[Tv _ _ _ (by simpa using hvl)];simp only[List.getElem?_toArray,q18]
        by_cases e:i*sz+off=j
        .rw[zN e,zN (by rw[hlen];exact hpos)]at hz;cases hz;rw[zN e,zN (by simpa using hvl)];exact⟨v,rfl,h1c,(show RD G.m d v by simpa only[RV]using hrd)⟩
        .rw[zO e]at hz|-;obtain⟨u,u1,u2,u3⟩:=hcell j z hz
         exact⟨u,by simpa using u1,u2,u3⟩)
      refine⟨_,_,?_,rfl,r1,r2⟩;rw[hva];simp only[Instr.storeAt,Instr.sureAddr,zf,zk,zQ,storeVar,BV hy];have hc1:vx.cells= #[v]:=by rw[<-Array.toArray_toList (xs:=vx.cells),hcl]
      rw[zO (by rw[hc1];simp[e5]),hcl];exact hst
     .cases h
    .cases h
   .cases h
end Go.Gar
namespace Go.Gar
section
variable {P:Program}{w:World}{t u ty e:TypeId}{z:Bd}{base:Option Addr}{sLen sCap n:Nat}{x:Value}{news olds:y6}
theorem Jl(ht:P.underlying t=some (.slice e))(hz:Gp P e=some z)(hu:(∃e',P.underlying u=some (.slice e'))\/P.underlying u=some .string)
  (hl:∀w':World,(Builtin.lenOf x).run P w'= .ok n w')
  (hfn:∀w':World,w'.heap=w.heap->(Builtin.firstCells z.size n x).run P w'= .ok news.toArray w') (hfo:∀w':World,w'.heap=w.heap->(Builtin.firstCells z.size sLen (.slice base sLen sCap)).run P w'= .ok olds.toArray w')
  (hg:sCap<sLen+n) (h63:sLen+n<=9223372036854775807) (hb:(sLen+n)*z.bytes<=140737488355328):
  ∃zs:yd,zs.size=(grownCap w (sLen+n) sCap e-(sLen+n))*z.zero.length/\(Builtin.append_ #[t,u] ty #[.slice base sLen sCap,x]).run P w=
   .ok (.slice (some ⟨w.heap.size,0,none⟩) (sLen+n) (grownCap w (sLen+n) sCap e)) (w.drew.alloc (.cells (olds.toArray++news.toArray++zs) e)):=by
 obtain⟨i,d,z0,h1,h2,h3,h4,h5,h6,h7,h8⟩:=Ct hz;have hn:¬(sLen+n<=sCap):=om
 have h63':¬(9223372036854775807<((sLen:Int)+(n:Int))):=om
 have hfit:=growslice_fits (need:=sLen+n) (old:=sCap) (bytes:=z.bytes) om hb;rw[h6]at hfit;have h48':¬(281474976710656<Builtin.nextslicecap (sLen+n) sCap*i.bytes):=om
 have hf:=hfn w.drew rfl;have hfo':=hfo w.drew rfl;rw[h5]at hf hfo';refine⟨Builtin.zeroCells z0.cells (grownCap w (sLen+n) sCap e-(sLen+n)),by rw[size_zeroCells,h8];simp,?_⟩;rcases hu with⟨e',hdu⟩|hdu<;>(simp[Builtin.append_,run_underlying ht,run_underlying hdu,sizeOf,typeInfo,zeroValue,h1,h3,hl,hn,h63',h48',Question.forced,hf,hfo',newRow,grownCap];congr 2;apply Array.ext';simp[zu])
theorem Mj(ht:P.underlying t=some (.slice e))(hz:Gp P e=some z)(hu:(∃e',P.underlying u=some (.slice e'))\/P.underlying u=some .string)
  (hl:∀w':World,(Builtin.lenOf x).run P w'= .ok n w')
  (hfn:(Builtin.firstCells z.size n x).run P w= .ok news.toArray w) {g o:Nat} {cur:yd} {T:TypeId} (hw:w.heap[g]? =some (.cells cur T (0,0))) (h1:∀v∈news,v.oneCell'=true)
  (hfit:o+sLen*z.size+news.length<=cur.size) (hg:sLen+n<=sCap):
  (Builtin.append_ #[t,u] ty #[.slice (some ⟨g,o,none⟩) sLen sCap,x]).run P w=
   .ok (.slice (some ⟨g,o,none⟩) (sLen+n) sCap) (w.setRow g (cur.toList.take (o+sLen*z.size)++news++cur.toList.drop (o+sLen*z.size+news.length)).toArray):=by
 obtain⟨i,d,z0,h1',h2,h3,h4,h5,h6,h7,h8⟩:=Ct hz;have hst:=run_storeCells_at P g (o+sLen*z.size) T news 0 cur w hw (by simpa using hfit) h1;simp only[q1B]at hst;rw[h5]at hfn hst;rw[h5];rcases hu with⟨e',hdu⟩|hdu<;>simp[Builtin.append_,run_underlying ht,run_underlying hdu,sizeOf,typeInfo,h1',hl,hg,hfn,addr_add,hst]
theorem run_append_nothing(ht:P.underlying t=some (.slice e))(hz:Gp P e=some z)(hu:(∃e',P.underlying u=some (.slice e'))\/P.underlying u=some .string)
  (hl:∀w':World,(Builtin.lenOf x).run P w'= .ok 0 w') (hfn:(Builtin.firstCells z.size 0 x).run P w= .ok #[] w):
  (Builtin.append_ #[t,u] ty #[.slice base sLen sCap,x]).run P w= .ok (.slice base sLen sCap) w\/sCap<sLen:=by
 obtain⟨i,d,z0,h1',h2,h3,h4,h5,h6,h7,h8⟩:=Ct hz;rcases q0A sCap sLen with h|hg
 .exact .inr h
 .refine .inl ?_;rw[h5]at hfn;rcases hu with⟨e',hdu⟩|hdu<;>cases base<;>simp[Builtin.append_,run_underlying ht,run_underlying hdu,sizeOf,typeInfo,h1',hl,hg,hfn,storeCells]
end
end Go.Gar
namespace Go.Gar
def Gh.move(G:Gh)(id b N:Nat)(q:AF):Gh:={ρ:=fun j=>if j=id then some (b,N)else G.ρ j,H:=G.H.set id q,m:=G.m}
variable {G:Gh}{w:World}{id:Nat}
theorem rO(h:B9 G w){o q:AF}(ho:G.H[id]? =some o)(hl':q.live=true)(cur:yd)(T:TypeId)(hs:Ap G (G.move id w.heap.size cur.size q) id o q)(hB:Iq G (G.move id w.heap.size cur.size q)->BR (G.move id w.heap.size cur.size q) (w.alloc (.cells cur T)) id q):
  B9 (G.move id w.heap.size cur.size q) (w.alloc (.cells cur T))/\D4 G w (G.move id w.heap.size cur.size q) (w.alloc (.cells cur T)):=by
 have hid:id<G.H.length:=(yZ.1 ho).1;have hρs:(G.move id w.heap.size cur.size q).ρ id=some (w.heap.size,cur.size):=by simp[Gh.move]
 have hρo:∀j,j≠id->(G.move id w.heap.size cur.size q).ρ j=G.ρ j:=fun j hj=>by simp[Gh.move,hj]
 have hHs:(G.move id w.heap.size cur.size q).H[id]? =some q:=by show(G.H.set id q)[id]? =_;rw[q08 hid]
 have hHo:∀j,j≠id->(G.move id w.heap.size cur.size q).H[j]? =G.H[j]?:=fun j hj=>by show(G.H.set id q)[j]? =_;rw[q06 (Ne.symm hj)]
 have hget:∀{j:Nat}{p:AF},(G.move id w.heap.size cur.size q).H[j]? =some p->(j=id/\p=q)\/(j≠id/\G.H[j]? =some p):=by
  intro j p hp
  by_cases e:j=id
  .subst e;rw[hHs]at hp;cases hp;exact .inl ⟨rfl,rfl⟩
  .rw[hHo j e]at hp;exact .inr ⟨e,hp⟩
 have hS:∀(j:Nat)(rs:List (Option (Nat×Nat×AT))),(G.move id w.heap.size cur.size q).H[j]? =some (.many rs)->G.H[j]? =some (.many rs):=by
  intro j rs hp;rcases hget hp with⟨_,e⟩|⟨_,hp⟩
  .rw[<-e]at hl';simp[AF.live]at hl'
  .exact hp
 have hP:∀c,EX (G.move id w.heap.size cur.size q) c->EX G c\/c=w.heap.size:=by
  rintro c ⟨j,M,p,hp,lp,hr⟩;rcases hget hp with⟨rfl,rfl⟩|⟨e,hp⟩
  .rw[hρs]at hr;cases hr;exact .inr rfl
  .rw[hρo j e]at hr;exact .inl ⟨j,M,p,hp,lp,hr⟩
 have hold:=Wh hS hP
 have hgl:Iq G (G.move id w.heap.size cur.size q):=⟨fun j p hp=>by
  by_cases e:j=id
  .subst e;rw[ho]at hp;cases hp;exact⟨q,hHs,hs⟩
  .exact⟨p,by rw[hHo j e];exact hp,by cases p<;>simp[Ap,hρo j e]⟩,Mem.le_refl _⟩
 have hheap:∀b,b<w.heap.size->(w.alloc (.cells cur T)).heap[b]? =w.heap[b]?:=fun b hb=>q1U w _ b hb;refine⟨⟨?_,?_,?_,?_,h.st,h.mny.of (fun b hb=>Bq h (.inr hb)) hS (fun b hb=>(hP b hb).imp_right (fun e=>Nat.le_of_eq e.symm))⟩,⟨rfl,rfl,rfl,sm,?_,fun _ _ _ hv=> .inl hv,hgl⟩⟩
 .intro j p hp;rcases hget hp with⟨rfl,rfl⟩|⟨e,hp⟩
  .exact hB hgl
  .exact(h.blk j p hp).QH hgl (fun c M lp hr=>hheap c (Bq h (.inl ⟨j,M,p,hp,lp,hr⟩))) (hρo j e) (fun rs e c hc=>hheap c (Bq h (.inr ⟨j,rs,by rw[<-e];exact hp,hc⟩)))
 .intro j j' p p' c M M' hp hp' lp lp' r1 r2;rcases hget hp with⟨e1,e2⟩|⟨e,hp2⟩<;>rcases hget hp' with⟨e3,e4⟩|⟨e',hp2'⟩
  .exact e1.trans e3.symm
  .subst e1;rw[hρs]at r1;cases r1;rw[hρo j' e']at r2;have:=Bq h (.inl ⟨j',M',p',hp2',lp',r2⟩);omega
  .subst e3;rw[hρs]at r2;cases r2;rw[hρo j e]at r1;have:=Bq h (.inl ⟨j,M,p,hp2,lp,r1⟩);omega
  .rw[hρo j e]at r1;rw[hρo j' e']at r2;exact h.inj _ _ p p' c M M' hp2 hp2' lp lp' r1 r2
 .intro c k v hv;have hv:G.m c k=some v:=hv;rw[World.cell?_alloc_lt _ _ _ (IX h hv)];exact h.mem c k v hv
 .intro c hc k;show G.m c k=none;rcases hold c hc with h1|rfl
  .exact h.sep c h1 k
  .cases hv:G.m w.heap.size k with
   |none=>rfl
   |some v=>have:=IX h hv;omega
 .intro c hc hno;refine⟨hheap c hc,fun h1=> ?_⟩;rcases hold c h1 with h1|rfl
  .exact hno h1
  .omega
def qn:yq->Option (Ao)
 |[]=>some []
 | .d (.i .i64 n)::r=>match qn r with
  |some l=>some (n::l)
  |none=>none
 |_=>none
theorem dZ:∀{cs:yq}{l:Ao},qn cs=some l->cs=l.map fun n=> .d (.i .i64 n)
 |[],l,h=>by cases h;rfl
 |x::r,l,h=>by
  unfold qn at h;split at h
  .rename_i e;cases e
  .rename_i n r' e;cases e;split at h
   .rename_i l' e;cases h;rw[dZ e];rfl
   .cases h
  .cases h
def sN(E:Nat->Option Bd)(H:yz)(u:Nat)(x:AV):Option (Bool×D):=
 match E u with
 |none=>none
 |some y=>match y.k,x with
  | .sl _,.d q=>some (B8 q,q)
  | .sl _,.sl id n _=>match H[id]? with
   |some (.a q)=>some (Nat.beq n (B3 q),q)
   |_=>none
  | .sl _,.bs id off n sz _=>match H[id]? with
   |some (.c cs)=>match qn ((cs.drop off).take n)with
    |some l=>some (Nat.beq sz 1&&Nat.beq l.length n,.is l)
    |none=>none
   |_=>none
  | .str,.d (.s l)=>some (true,.by l)
  |_,_=>none
variable {P:Program}{E:Nat->Option Bd}{u:Nat}{x:AV}{q:D}{c:Bool}{v:Value}
theorem ec(hE:CV P E)(hr:B9 G w)(h:sN E G.H u x=some (c,q))(hc:c=true)(hx:RV G x v):
  B8 q=true/\Aq q/\((∃e',P.underlying u=some (.slice e'))\/P.underlying u=some .string)/\∃news:y6,(∀w':World,(Builtin.lenOf v).run P w'= .ok (B3 q) w')/\
   (∀w':World,w'.heap=w.heap->(Builtin.firstCells (Bt q) (B3 q) v).run P w'= .ok news.toArray w')/\news.length=(slc q).length/\
   ∀(k:Nat)(d:D),(slc q)[k]? =some d->∃v,news[k]? =some v/\v.oneCell'=true/\RD G.m d v:=by
 subst hc;unfold sN at h;split at h
 .cases h
 .rename_i y hy';have hy:=hE u y hy';obtain⟨d,hd,hk',hu⟩:=As hy w
  have key:B8 q=true->Aq q->∀(a:Option Addr)(cap:Nat),v= .slice a (B3 q) cap->(B3 q=0\/∃b off,a=some ⟨b,off,none⟩/\∀(k:Nat)(d:D),(slc q)[k]? =some d->∃u,w.cell? ⟨b,off+k,none⟩=some u/\u.oneCell'=true/\RD G.m d u)->
    ∃news:y6,(∀w':World,(Builtin.lenOf v).run P w'= .ok (B3 q) w')/\(∀w':World,w'.heap=w.heap->(Builtin.firstCells (Bt q) (B3 q) v).run P w'= .ok news.toArray w')/\news.length=(slc q).length/\
    ∀(k:Nat)(d:D),(slc q)[k]? =some d->∃v,news[k]? =some v/\v.oneCell'=true/\RD G.m d v:=by
   intro hs ho a cap hv hcells;have hlen:=Gv hs ho;rcases hcells with h0|⟨b,off,rfl,hcell⟩
   .refine⟨[],fun w'=>by rw[hv];simp[Builtin.lenOf],fun w' _=> ?_,by rw[hlen,h0];simp,fun k d hd=> ?_⟩
    .rw[hv,h0]
     cases a with
     |none=>simp[Builtin.firstCells]
     |some a=>simp[Builtin.firstCells,loadCells,loadCellsFrom]
    .have:(slc q).length=0:=by rw[hlen,h0];simp
     rw[q1D this]at hd;simp at hd
   .have hex:∃vs:yd,∀(k:Nat),k<(slc q).length->vs[off+k]? =w.cell? ⟨b,off+k,none⟩:=
     ⟨((List.range (off+(slc q).length)).map fun k=>(w.cell? ⟨b,k,none⟩).getD undef).toArray,fun k hk=>by
      obtain⟨u,hu,_⟩:=hcell k (slc q)[k] (yj hk)
      simp[List.getElem?_range (by omega:off+k<off+(slc q).length),hu]⟩
    obtain⟨vs,hvs⟩:=hex
    obtain⟨us,u1,u2,u3⟩:=Oo (R:=fun d v=>v.oneCell'=true/\RD G.m d v) (vs:=vs) off (slc q) (fun k d hd=>by
     have hk:k<(slc q).length:=(yZ.1 hd).1;obtain⟨u,hu,hd'⟩:=hcell k d hd
     exact⟨u,by rw[hvs k hk];exact hu,hd'⟩)
    refine⟨us,fun w'=>by rw[hv];simp[Builtin.lenOf],fun w' hw'=> ?_,u1,u3⟩;rw[hv];refine run_firstCells_some w' (Bt q) (B3 q) ⟨b,off,none⟩ _ _ us (by rw[u1,hlen]) (fun j u hj=> ?_);have hk:j<(slc q).length:=by rw[<-u1];exact(yZ.1 hj).1
    rw[addr_add,World.cell?_of_block (w:=w) (by rw[hw']),<-hvs j hk];exact u2 j u hj
  split at h
  .rename_i e q' hk;simp only[yh,zL]at h;obtain⟨hs,rfl⟩:=h;rw[hk]at hk';have hk':=Eh hk';subst hk';simp only[RV]at hx;obtain⟨a,cap,hv,hcap,ho,hcells⟩:=(Ek hs).1 hx;refine⟨hs,ho,.inl ⟨_,hu⟩,key hs ho a cap hv (hcells.imp id ?_)⟩;rintro⟨b,off,ha,hcell⟩;exact⟨b,off,ha,fun k d hd=>let⟨u,hu,h1⟩:=hcell k d hd;⟨u,hr.mem _ _ _ hu,h1⟩⟩
  .rename_i e id n sz hk;split at h
   .rename_i q' hq;simp only[yh,zL]at h;obtain⟨hn,rfl⟩:=h;have hn:=zH hn;rw[hk]at hk';have hk':=Eh hk';subst hk';simp only[RV]at hx;obtain⟨_,blk,hb,hp⟩:=hx;rw[hq]at hb;cases hb;obtain⟨g1,g2,g3⟩:=hp;obtain⟨k1,k2,k3⟩:=hr.blk id _ hq;refine⟨k1,k2,.inl ⟨_,hu⟩,?_⟩;rcases g3 hn with⟨g4,a,rfl⟩|⟨b,N,cap,g4,rfl,_⟩
    .exact key k1 k2 a 0 (by rw[<-hn,g4]) (.inl om)
    .refine key k1 k2 _ cap (by rw[<-hn]) ?_;rcases k3 with⟨k3,_⟩|⟨b',N',vs,T,k4,k5,k6,k7⟩
     .exact .inl k3
     .rw[g4]at k4;cases k4;exact .inr ⟨b,0,rfl,fun k d hd=>let⟨u,hu,h1⟩:=k7 k d hd;⟨u,by rw[q0M,DT k5];exact hu,h1⟩⟩
   .cases h
  .rename_i e id off n sz cnt hk;split at h
   .rename_i cs hq;split at h
    .rename_i l hl;simp only[yh,zL,yU]at h;obtain⟨⟨h1,h2⟩,rfl⟩:=h;have h1:=zH h1;have h2:=zH h2;subst h1;rw[hk]at hk';have hk':=Eh hk';subst hk';simp only[RV]at hx;obtain⟨_,blk,hb,hp⟩:=hx;rw[hq]at hb;cases hb;obtain⟨g1,g2,b,N,cap,g4,rfl,g5,g6⟩:=hp;obtain⟨b',N',vs,T,k1,k2,k3,k4,k5⟩:=hr.blk id _ hq;rw[g4]at k1;cases k1;refine⟨rfl,trivial,.inl ⟨_,hu⟩,key rfl trivial _ cap (by simp only[B3];rw[h2]) (.inr ⟨b,off,rfl,fun k d hd=> ?_⟩)⟩;simp only[slc,q03,q0B]at hd;obtain⟨x,hx,rfl⟩:=hd;have e1:((cs.drop off).take n)[k]? =some (.d (.i .i64 x)):=by rw[dZ hl,q03,hx];rfl
     rw[q0T]at e1;split at e1
     .rw[q0Y]at e1;obtain⟨v,hv,hr'⟩:=k5 _ _ e1;refine⟨v,by rw[DT k2];exact hv,?_⟩;simp only[RV,RD]at hr';subst hr';exact⟨rfl,by simp only[RD]⟩
     .cases e1
    .cases h
   .cases h
  .rename_i l hk;cases h;rw[hk]at hk';have hk':=I2 hk';subst hk';simp only[RV,RD]at hx;subst hx;have hsz:(⟨l.toArray⟩:ByteArray).size=l.length:=by simp[ByteArray.size]
   refine⟨rfl,trivial,.inr hu,ZX l,fun w'=>by simp[Builtin.lenOf,hsz,B3],fun w' _=> ?_,by simp[ZX,slc],fun k d hd=> ?_⟩
   .simp only[Builtin.firstCells,B3,zk]
    congr 1
    apply Array.ext';simp[ZX,ByteArray.data_extract]
   .simp only[slc,q03,q0B]at hd;obtain⟨q,hq,rfl⟩:=hd;exact⟨.int .u8 q.toNat,by simp[ZX,hq],rfl,by simp[RD]⟩
  .cases h
def uE:D->D->Option D
 | .by a,.by b=>some (.by (a++b))
 | .is a,.is b=>some (.is (a++b))
 | .sl sz a,.sl _ b=>some (.sl sz (a++b))
 |_,_=>none
theorem px{p r:D}(h:uE p q=some r)(hs:Bt p=Bt q)(hp:Aq p)(hq:Aq q):B8 p=true/\B8 r=true/\Aq r/\Bt r=Bt p/\B3 r=B3 p+B3 q/\slc r=slc p++slc q:=by
 unfold uE at h
 split at h<;>first
  |(cases h;simp[B8,Aq,Bt,B3,slc];done)
  |skip
 .rename_i sz a sz' b;cases h;simp only[Bt]at hs;subst hs;refine⟨rfl,rfl,?_,rfl,by simp[B3],by simp[slc]⟩;simp only[Aq]at hp hq|-;intro e he;rcases q04.1 he with he|he
  .exact hp e he
  .exact hq e he
 .cases h
def PO(E:Nat->Option Bd)(H:yz)(t u:Nat)(x:AV):Option (Bool×D):=
 match E t with
 |none=>none
 |some y=>match y.k with
  | .sl e=>match E e with
   |none=>none
   |some z=>match sN E H u x with
    |some (c,q)=>some (c&&Nat.beq z.size (Bt q)&&decide (B3 q<=9223372036854775807)&&decide (B3 q*z.bytes<=140737488355328),q)
    |none=>none
  |_=>none
variable {t ty:Nat}
theorem Q9(hE:CV P E)(hr:B9 G w)(h:PO E G.H t u x=some (c,q))(hc:c=true)(hx:RV G x v)(a:Option Addr):
  B8 q=true/\Aq q/\((B3 q=0/\(Builtin.append_ #[t,u] ty #[.slice a 0 0,v]).run P w= .ok (.slice a 0 0) w)\/
   ∃cap e,∃cur:yd,0<B3 q/\B3 q<=cap/\cap<=maxLen/\cur.size=cap*Bt q/\(Builtin.append_ #[t,u] ty #[.slice a 0 0,v]).run P w= .ok (.slice (some ⟨w.heap.size,0,none⟩) (B3 q) cap) (w.drew.alloc (.cells cur e))/\
    ∀(k:Nat)(d:D),(slc q)[k]? =some d->∃v,cur[k]? =some v/\v.oneCell'=true/\RD G.m d v):=by
 subst hc;unfold PO at h;split at h
 .cases h
 .rename_i y hy';have hy:=hE t y hy';obtain⟨d,hd,hk',hut⟩:=As hy w;split at h
  .rename_i e hk;rw[hk]at hk';have hk':=Eh hk';subst hk';split at h
   .cases h
   .rename_i z hz';have hz:=hE e z hz';split at h
    .rename_i c q' hsrc;simp only[yh,zL,yU,yc]at h;obtain⟨⟨⟨⟨hc,h1⟩,h2⟩,h3⟩,rfl⟩:=h;have h1:=zH h1;obtain⟨hs,ho,hu,news,g1,g2,g3,g4⟩:=ec hE hr hsrc hc hx;refine⟨hs,ho,?_⟩;have hlen:=Gv hs ho
     by_cases h0:B3 q'=0
     .refine .inl ⟨h0,?_⟩;have hn:news=[]:=q1D (by rw[g3,hlen,h0];simp);rcases run_append_nothing (w:=w) (ty:=ty) (base:=a) (sLen:=0) (sCap:=0) hut hz hu (fun w'=>by rw[g1 w',h0]) (by rw[h1];have:=g2 w rfl;rw[h0,hn]at this;exact this)with h|h
      .exact h
      .omega
     .refine .inr ?_
      obtain⟨zs,hzs,hrun⟩:=Jl (w:=w) (ty:=ty) (base:=a) (sLen:=0) (sCap:=0) (n:=B3 q') (news:=news) (olds:=[]) hut hz hu g1
       (fun w' hw'=>by rw[h1];exact g2 w' hw') (fun w' _=>by cases a<;>simp[Builtin.firstCells,loadCells,loadCellsFrom]) om om (by rw[q0M];exact h3)
      have hzl:=M0 hz;rw[q0M]at hrun hzs;have hge:=grownCap_ge w (B3 q') 0 e;refine⟨grownCap w (B3 q') 0 e,e,_,om,hge,grownCap_le_maxLen w _ _ _ (by simp[maxLen];omega),?_,hrun,?_⟩
      .simp[hzs,hzl,g3,hlen,h1,<-q0i]
       congr 1
       omega
      .intro k d hd;obtain⟨v,hv,hr⟩:=g4 k d hd;refine⟨v,?_,hr⟩;have hk:=(yZ.1 hv).1;rw[q1a (by simpa using hk),Array.getElem?_append_right sm];simpa using hv
    .cases h
  .cases h
variable {b:Value}
theorem fI(hE:CV P E)(hr:B9 G w)(h:PO E G.H t u x=some (c,q))(hc:c=true)(hb:RV G .e0 b)(hx:RV G x v):
  Yields P G w (Builtin.append_ #[t,u] ty #[b,v]) (.d q):=by
 simp only[RV]at hb;obtain⟨a,rfl⟩:=hb;obtain⟨hs,ho,hrun⟩:=Q9 (ty:=ty) hE hr h hc hx a;rcases hrun with⟨h0,hrun⟩|⟨cap,e,cur,h1,h2,h3,h4,hrun,hcell⟩
 .refine Yields.still hr hrun ?_;simp only[RV];exact(Ek hs).2 ⟨a,0,by rw[h0],om,ho,.inl h0⟩
 .obtain⟨hr1,hf1⟩:=Qo hr (w.drawn+1);obtain⟨hr2,hf2⟩:=WQ hr1 cur e (0,0) cur.toList (fun k v hv=>by simpa using hv);refine⟨_,_,G.lay w.heap.size cur.toList,hrun,?_,rfl,hr2,hf1.trans hf2⟩;simp only[RV];refine(Ek hs).2 ⟨_,cap,rfl,h2,ho,.inr ⟨w.heap.size,0,rfl,fun k d hd=> ?_⟩⟩;obtain⟨v,hv,h1,hr⟩:=hcell k d hd;refine⟨v,?_,h1,hr.mono ((hf1.trans hf2).gle.mem)⟩;show(if w.heap.size=w.heap.size then cur.toList[0+k]? else _)=_;rw[zN rfl,q0M];simpa using hv
theorem kF(hE:CV P E)(hr:B9 G w)(h:PO E G.H t u x=some (c,q))(hc:c=true)(hb:RV G .e0 b)(hx:RV G x v):
  H9 P G w (Builtin.append_ #[t,u] ty #[b,v]) (.sl G.H.length (B3 q) (Bt q)) (G.H++[.a q]):=by
 simp only[RV]at hb;obtain⟨a,rfl⟩:=hb;obtain⟨hs,ho,hrun⟩:=Q9 (ty:=ty) hE hr h hc hx a;rcases hrun with⟨h0,hrun⟩|⟨cap,e,cur,h1,h2,h3,h4,hrun,hcell⟩
 ·
  let G':Gh:={ρ:=fun id=>if id=G.H.length then none else G.ρ id,H:=G.H++[.a q],m:=G.m}
  have hold:∀{id:Nat}{p:AF},G'.H[id]? =some p->(id<G.H.length/\G.H[id]? =some p/\G'.ρ id=G.ρ id)\/(id=G.H.length/\p= .a q/\G'.ρ id=none):=by
   intro id p hp;have hp:(G.H++[.a q])[id]? =some p:=hp;rcases Nat.lt_trichotomy id G.H.length with hlt|heq|hgt
   .rw[zW hlt]at hp;exact .inl ⟨hlt,hp,by simp[G',Nat.ne_of_lt hlt]⟩
   .subst heq;simp at hp;exact .inr ⟨rfl,hp.symm,by simp[G']⟩
   .rw[zl om,q0R (by simp;omega)]at hp;cases hp
  have hgl:Iq G G':=⟨fun id p hp=>by
   have hlt:=(yZ.1 hp).1;have hρ:G'.ρ id=G.ρ id:=by simp[G',Nat.ne_of_lt hlt]
   exact⟨p,by show(G.H++[.a q])[id]? =some p;rw[zW hlt];exact hp,by cases p<;>simp[Ap,hρ]⟩,Mem.le_refl _⟩
  have hS:∀(j:Nat)(rs:List (Option (Nat×Nat×AT))),G'.H[j]? =some (.many rs)->G.H[j]? =some (.many rs):=by
   intro j rs hp;rcases hold hp with⟨_,h2,_⟩|⟨_,e,_⟩
   .exact h2
   .cases e
  have hP:∀b,EX G' b->EX G b:=by
   rintro b ⟨id,N,p,hp,hl,hρ⟩;rcases hold hp with⟨_,h2,h3⟩|⟨_,_,h3⟩
   .exact⟨id,N,p,h2,hl,by rw[<-h3];exact hρ⟩
   .rw[h3]at hρ;cases hρ
  have hown:=JM hS hP;refine⟨_,w,G',hrun,?_,rfl,⟨?_,?_,hr.mem,fun b hb k=>hr.sep b (hown b hb) k,hr.st,hr.mny.of (fun b hb=>Bq hr (.inr hb)) hS (fun c hc=> .inl (hP c hc))⟩,⟨rfl,rfl,rfl,yV _,fun b _ hno=>⟨rfl,fun h=>hno (hown b h)⟩,fun _ _ _ hv=> .inl hv,hgl⟩⟩
  .simp only[RV];refine⟨rfl,.a q,by show(G.H++[.a q])[G.H.length]? =_;simp,rfl,yV _,fun _=> .inl ⟨h0,a,rfl⟩⟩
  .intro id p hp;rcases hold hp with⟨_,h2,h3⟩|⟨h1,h2,h3⟩
   .exact(hr.blk id p h2).QH hgl (fun _ _ _ _=>rfl) h3
   .subst h2;exact⟨hs,ho,.inl ⟨h0,h3⟩⟩
  .intro id id' p p' b N N' hp hp' lp lp' r1 r2;rcases hold hp with⟨_,h2,h3⟩|⟨_,_,h3⟩
   .rcases hold hp' with⟨_,k2,k3⟩|⟨_,_,k3⟩
    .rw[h3]at r1;rw[k3]at r2;exact hr.inj id id' p p' b N N' h2 k2 lp lp' r1 r2
    .rw[k3]at r2;cases r2
   .rw[h3]at r1;cases r1
 .obtain⟨hr1,hf1⟩:=Qo hr (w.drawn+1);have hgl:=M6 G w.heap.size cur.size (.a q)
  obtain⟨hr2,hf2⟩:=TK hr1 cur e (.a q) (by
   refine⟨hs,ho,.inr ⟨w.heap.size,cur.size,cur,e,by simp[Gh.own],heap_alloc_new _ _,rfl,fun k d hd=> ?_⟩⟩;obtain⟨v,hv,h1,hr⟩:=hcell k d hd
   exact⟨v,hv,h1,hr⟩)
  refine⟨_,_,_,hrun,?_,rfl,hr2,hf1.trans hf2⟩;simp only[RV];exact⟨rfl,.a q,by simp[Gh.own],rfl,yV _,fun _=> .inr ⟨w.heap.size,cur.size,cap,by simp[Gh.own],rfl,h2,h3,h4⟩⟩
theorem nN(h:B9 G w){o q:AF}(ho:G.H[id]? =some o)(hl:o.live=true)(hl':q.live=true)(hs:Ap G (G.put id q) id o q)(hB:BR (G.put id q) w id q):
  B9 (G.put id q) w/\D4 G w (G.put id q) w:=by
 have hid:id<G.H.length:=(yZ.1 ho).1
 have hget:∀{j:Nat}{p:AF},(G.put id q).H[j]? =some p->(j=id/\p=q)\/(j≠id/\G.H[j]? =some p):=by
  intro j p hp;have hp:(G.H.set id q)[j]? =some p:=hp
  by_cases e:j=id
  .subst e;rw[q08 hid]at hp;cases hp;exact .inl ⟨rfl,rfl⟩
  .rw[q06 (Ne.symm e)]at hp;exact .inr ⟨e,hp⟩
 have hS:∀(j:Nat)(rs:List (Option (Nat×Nat×AT))),(G.put id q).H[j]? =some (.many rs)->G.H[j]? =some (.many rs):=by
  intro j rs hp;rcases hget hp with⟨_,e⟩|⟨_,hp⟩
  .rw[<-e]at hl';simp[AF.live]at hl'
  .exact hp
 have hP:∀c,EX (G.put id q) c->EX G c:=by
  rintro c ⟨j,M,p,hp,lp,hr⟩;rcases hget hp with⟨rfl,rfl⟩|⟨e,hp⟩
  .exact⟨j,M,o,ho,hl,hr⟩
  .exact⟨j,M,p,hp,lp,hr⟩
 have hown:=JM hS hP;have hgl:=R5 ho hs;refine⟨⟨?_,?_,h.mem,fun c hc k=>h.sep c (hown c hc) k,h.st,h.mny.of (fun b hb=>Bq h (.inr hb)) hS (fun c hc=> .inl (hP c hc))⟩,⟨rfl,rfl,rfl,yV _,fun c _ hno=>⟨rfl,fun h1=>hno (hown c h1)⟩,fun _ _ _ hv=> .inl hv,hgl⟩⟩
 .intro j p hp;rcases hget hp with⟨rfl,rfl⟩|⟨e,hp⟩
  .exact hB
  .exact(h.blk j p hp).QH hgl (fun _ _ _ _=>rfl) rfl
 .intro j j' p p' c M M' hp hp' lp lp' r1 r2;rcases hget hp with⟨e1,e2⟩|⟨e,hp2⟩<;>rcases hget hp' with⟨e3,e4⟩|⟨e',hp2'⟩
  .exact e1.trans e3.symm
  .subst e1;subst e2;exact h.inj _ _ o p' c M M' ho hp2' hl lp' r1 r2
  .subst e3;subst e4;exact h.inj _ _ p o c M M' hp2 ho lp hl r1 r2
  .exact h.inj _ _ p p' c M M' hp2 hp2' lp lp' r1 r2
def aE(E:Nat->Option Bd)(H:yz)(t u id n:Nat)(x:AV):Option (Bool×D):=
 match E t with
 |none=>none
 |some y=>match y.k with
  | .sl e=>match E e with
   |none=>none
   |some z=>match H[id]? with
    |some (.a p)=>match sN E H u x with
     |some (c,q)=>match uE p q with
      |some r=>some (c&&Nat.beq n (B3 p)&&Nat.beq z.size (Bt p)&&Nat.beq (Bt p) (Bt q)&& !(Nat.beq (Bt p) 0)&&decide (B3 p+B3 q<=9223372036854775807)&&decide ((B3 p+B3 q)*z.bytes<=140737488355328),r)
      |none=>none
     |none=>none
    |_=>none
  |_=>none
theorem pw(hE:CV P E)(hr:B9 G w){n sz:Nat}{r:D}(h:aE E G.H t u id n x=some (c,r))(hc:c=true)(hb:RV G (.sl id n sz) b)(hx:RV G x v):
  H9 P G w (Builtin.append_ #[t,u] ty #[b,v]) (.sl id (B3 r) sz) (G.H.set id (.a r)):=by
 subst hc;unfold aE at h;split at h
 .cases h
 .rename_i y hy';have hy:=hE t y hy';obtain⟨d,hd,hk',hut⟩:=As hy w;split at h
  .rename_i e hk;rw[hk]at hk';have hk':=Eh hk';subst hk';split at h
   .cases h
   .rename_i z hz';have hz:=hE e z hz';split at h
    .rename_i p hp;split at h
     .rename_i c q hsrc;split at h
      .rename_i r' happ;simp only[yh,zL,yU,yc]at h;obtain⟨⟨⟨⟨⟨⟨⟨hc,e1⟩,e2⟩,e3⟩,e4⟩,e5⟩,e6⟩,rfl⟩:=h;have e1:=zH e1;have e2:=zH e2;have e3:=zH e3;have e4:Bt p≠0:=fun e=>by rw[e]at e4;exact absurd e4 (by decide)
       obtain⟨qs,qo,hu,news,g1,g2,g3,g4⟩:=ec hE hr hsrc hc hx;obtain⟨ps,po,hP⟩:=hr.blk id _ hp;obtain⟨_,rs,ro,rsz,rln,rc⟩:=px happ e3 po qo;have hlq:=Gv qs qo;have hlp:=Gv ps po
       have hone:∀v∈news,v.oneCell'=true:=fun v hv=>by
        obtain⟨k,hk,rfl⟩:=q0d.1 hv;obtain⟨v,hv',h1,_⟩:=g4 k (slc q)[k] (yj om);rw[yj hk]at hv';cases hv';exact h1
       simp only[RV]at hb;obtain⟨_,blk,hb',hB⟩:=hb;rw[hp]at hb';cases hb';obtain⟨f1,f2,f3⟩:=hB
       have grow:∀(base:Option Addr)(sCap:Nat)(olds:y6),b= .slice base n sCap->n<=sCap->sCap<n+B3 q->
         (∀w':World,w'.heap=w.heap->(Builtin.firstCells z.size n (.slice base n sCap)).run P w'= .ok olds.toArray w')->olds.length=(slc p).length->
         (∀(k:Nat)(d:D),(slc p)[k]? =some d->∃v,olds[k]? =some v/\v.oneCell'=true/\RD G.m d v)->
         H9 P G w (Builtin.append_ #[t,u] ty #[b,v]) (.sl id (B3 r') sz) (G.H.set id (.a r')):=by
        intro base sCap olds hb hle hlt hfo hol holds;subst hb
        obtain⟨zs,hzs,hrun⟩:=Jl (w:=w) (ty:=ty) (base:=base) (sLen:=n) (sCap:=sCap) (n:=B3 q) (news:=news) (olds:=olds) hut hz hu g1
         (fun w' hw'=>by rw[e2,e3];exact g2 w' hw') hfo hlt om (by rw[e1];exact e6)
        have hzl:=M0 hz;have hge:=grownCap_ge w (n+B3 q) sCap e;obtain⟨hr1,hf1⟩:=Qo hr (w.drawn+1);have hpos:0<B3 q:=om
        obtain⟨hr2,hf2⟩:=rO hr1 hp (q:=.a r') rfl (olds.toArray++news.toArray++zs) e (by simp[Ap,rsz,rln];omega) (fun hgl=>by
         refine⟨rs,ro,.inr ⟨w.heap.size,_,_,e,by simp[Gh.move],heap_alloc_new _ _,rfl,fun k d hd=> ?_⟩⟩;rw[rc]at hd;rcases q0A k (slc p).length with hk|hk
         .rw[zW hk]at hd;obtain⟨v,hv,h1,hr⟩:=holds k d hd;refine⟨v,?_,h1,hr⟩;rw[Array.append_assoc,q1a (by simp;omega)];simpa using hv
         .rw[zl hk]at hd;obtain⟨v,hv,h1,hr⟩:=g4 _ d hd;have hk2:=(yZ.1 hv).1;refine⟨v,?_,h1,hr⟩;rw[Array.append_assoc,Array.getElem?_append_right (by simp;omega),q1a (by simp;omega)]
          simpa[hol]using hv)
        refine⟨_,_,_,hrun,?_,rfl,hr2,hf1.trans hf2⟩;simp only[RV];have hid:id<G.H.length:=(yZ.1 hp).1;refine⟨rfl,.a r',by show(G.H.set id (.a r'))[id]? =_;rw[q08 hid],by rw[rsz];exact f1,yV _,fun _=> .inr ⟨w.heap.size,(olds.toArray++news.toArray++zs).size,grownCap w (n+B3 q) sCap e,by simp[Gh.move],?_,?_,?_,?_⟩⟩
        .rw[rln,e1]
        .rw[rln];omega
        .exact grownCap_le_maxLen w _ _ _ (by simp[maxLen];omega)
        .simp[hzs,hzl,g3,hol,hlq,hlp,<-f1,e2,e3,<-q0i]
         congr 1
         omega
       rcases f3 e1 with⟨f4,a,rfl⟩|⟨g,N,cap,f4,rfl,f6,f7,f8⟩
       .by_cases h0:B3 q=0
        .rcases run_append_nothing (w:=w) (ty:=ty) (base:=a) (sLen:=0) (sCap:=0) hut hz hu (fun w'=>by rw[g1 w',h0]) (by rw[e2,e3];have:=g2 w rfl;rw[h0,q1D (show news.length=0 by rw[g3,hlq,h0];simp)]at this;exact this)with hrun|hbad
         .obtain⟨hr2,hf2⟩:=nN hr hp rfl (q:=.a r') rfl (by simp[Ap,rsz,rln,Gh.put]) (by
           have hP':=hP;refine⟨rs,ro,hP'.imp (fun h=>⟨by rw[rln];omega,h.2⟩) ?_⟩;rintro⟨b',N',vs,T,k1,k2,k3,k4⟩;refine⟨b',N',vs,T,k1,k2,k3,fun k d hd=> ?_⟩;rw[rc,q1D (show(slc q).length=0 by rw[hlq,h0];simp),q07]at hd
           exact k4 k d hd)
          have hid:id<G.H.length:=(yZ.1 hp).1;refine⟨_,w,G.put id (.a r'),hrun,?_,rfl,hr2,hf2⟩;simp only[RV];exact⟨rfl,.a r',by show(G.H.set id (.a r'))[id]? =_;rw[q08 hid],by rw[rsz];exact f1,yV _,fun _=> .inl ⟨by rw[rln];omega,a,rfl⟩⟩
         .omega
        .exact grow a 0 [] (by rw[f4]) om om (fun w' _=>by rw[f4];cases a<;>simp[Builtin.firstCells,loadCells,loadCellsFrom]) (by rw[hlp,<-e1,f4];simp) (fun k d hd=>by
          have:(slc p).length=0:=by rw[hlp,<-e1,f4];simp
          rw[q1D this]at hd;simp at hd)
       .rcases hP with⟨h0,hnone⟩|⟨g',N',vs,T,k1,k2,k3,k4⟩
        .rw[f4]at hnone;cases hnone
        .rw[f4]at k1;cases k1;rcases q0A cap (n+B3 q)with hlt|hge
         .obtain⟨us,u1,u2,u3⟩:=Oo (R:=fun d v=>v.oneCell'=true/\RD G.m d v) (vs:=vs) 0 (slc p) (fun k d hd=>by rw[q0M];exact k4 k d hd);refine grow _ cap us rfl f6 hlt (fun w' hw'=> ?_) u1 u3;refine run_firstCells_some w' z.size n ⟨g,0,none⟩ _ _ us (by rw[u1,hlp,e2,<-e1]) (fun j u hj=> ?_);rw[addr_add,World.cell?_of_block (w:=w) (by rw[hw']),DT k2];exact u2 j u hj
         .have hsize:(n+B3 q)*Bt p<=vs.size:=by
           rw[k3,f8,f1];exact q1b _ hge
          have hfitc:0+n*z.size+news.length<=vs.size:=by
           rw[g3,hlq,e2,<-e3,q0M,<-q0i];exact hsize
          have hrun:=Mj (ty:=ty) hut hz hu g1 (by rw[e2,e3];exact g2 w rfl) k2 hone hfitc hge;have hoff:0+n*z.size=(slc p).length:=by rw[hlp,e2,e1];omega
          obtain⟨hr2,hf2⟩:=NU hr (cur:=(vs.toList.take (0+n*z.size)++news++vs.toList.drop (0+n*z.size+news.length)).toArray) hp rfl (q:=.a r') rfl f4 (by simp[Ap,rsz,rln,Gh.put]) (by
           refine⟨rs,ro,.inr ⟨g,N,_,T,f4,setRow_heap w g vs _ T _ k2,?_,fun k d hd=> ?_⟩⟩
           .simp;omega
           .rw[rc]at hd;rcases q0A k (slc p).length with hk|hk
            .rw[zW hk]at hd;obtain⟨v,hv,h1,hr⟩:=k4 k d hd;refine⟨v,?_,h1,hr⟩;rw[List.getElem?_toArray,zu,zW (by simp;omega),q0T,zN om];simpa using hv
            .rw[zl hk]at hd;obtain⟨v,hv,h1,hr⟩:=g4 _ d hd;have hk2:=(yZ.1 hv).1;refine⟨v,?_,h1,hr⟩;have ht:(vs.toList.take (0+n*z.size)).length=(slc p).length:=by simp;omega
             rw[List.getElem?_toArray,zu,zl om,ht,zW om]
             exact hv)
          have hid:id<G.H.length:=(yZ.1 hp).1;refine⟨_,_,G.put id (.a r'),hrun,?_,rfl,hr2,hf2⟩;simp only[RV];exact⟨rfl,.a r',by show(G.H.set id (.a r'))[id]? =_;rw[q08 hid],by rw[rsz];exact f1,yV _,fun _=> .inr ⟨g,N,cap,f4,by rw[rln,e1],by rw[rln];omega,f7,f8⟩⟩
      .cases h
     .cases h
    .cases h
  .cases h
end Go.Gar
namespace Go.Gar
def My(k:K)(sz n:Nat)(zs:yo):D:=
 match k,zs with
 | .int .i64,[.i .i64 0]=> .is (List.replicate n 0)
 | .int .u8,[.i .u8 0]=> .by (List.replicate n 0)
 |_,_=> .sl sz (List.replicate n zs)
def Q0:y6->Option (yo)
 |[]=>some []
 |v::r=>match v,Q0 r with
  | .int k n,some l=>some (.i k n::l)
  | .bool b,some l=>some (.b b::l)
  | .string ⟨⟨s⟩⟩,some l=>some (.s s::l)
  | .slice none 0 0,some l=>some (.sl 1 []::l)
  |_,_=>none
def D.one:D->Bool
 | .agg _| .tup _=>false
 |_=>true
def Do:yo->Bool
 |[]=>true
 |d::r=>d.one&&Do r
theorem Ze{m:Mem}{d:D}{v:Value}(h:d.one=true)(hd:RD m d v):v.oneCell'=true:=by
 cases d<;>simp only[D.one,reduceCtorEq]at h<;>simp only[RD]at hd
 all_goals first
  |(subst hd;rfl)
  |exact hd.1▸hd.2
  |(obtain⟨a,cap,rfl,_⟩:=hd;rfl)
theorem Y4(off:Nat):∀(l:y6)(j:Nat)(cs:yd),off+j+l.length<=cs.size->
  ((l.zipIdx j).foldl (fun cs (p:Value×Nat)=>cs.setIfInBounds (off+p.2) p.1) cs).size=cs.size/\
  ∀k,((l.zipIdx j).foldl (fun cs (p:Value×Nat)=>cs.setIfInBounds (off+p.2) p.1) cs)[k]? =if off+j<=k/\k<off+j+l.length then l[k-(off+j)]? else cs[k]?
 |[],j,cs,_=>by
  refine⟨sm,fun k=> ?_⟩;simp only[List.zipIdx_nil,List.foldl_nil,zI];rw[zO om]
 |v::l,j,cs,h=>by
  simp only[yu]at h;obtain⟨h1,h2⟩:=Y4 off l (j+1) (cs.setIfInBounds (off+j) v) (by simp;omega);simp only[List.zipIdx_cons,q0c];refine⟨by rw[h1];simp,fun k=> ?_⟩;rw[h2 k]
  by_cases hk:off+(j+1)<=k/\k<off+(j+1)+l.length
  .rw[zN hk,zN ⟨om,by simp;omega⟩];rw[show k-(off+j)=(k-(off+(j+1)))+1 by omega];simp
  .rw[zO hk]
   by_cases hk2:k=off+j
   .subst hk2;rw[zN ⟨om,sm⟩];rw[q0K om];simp
   .rw[zO (by simp;omega),q0P om]
theorem ff{G:Gh}{cells:yd}{acc xs:yq}{off:Nat}{v:Value}(ha:BP G acc cells.toList)(hv:BP G xs v.cells.toList)(hfit:off+xs.length<=acc.length):
  BP G (acc.take off++xs++acc.drop (off+xs.length)) (v.cells.zipIdx.foldl (fun cs (p:Value×Nat)=>cs.setIfInBounds (off+p.2) p.1) cells).toList:=by
 have hl:=BP.NG ha;have hlv:=BP.NG hv
 have e:(v.cells.zipIdx.foldl (fun cs (p:Value×Nat)=>cs.setIfInBounds (off+p.2) p.1) cells)=(v.cells.toList.zipIdx 0).foldl (fun cs (p:Value×Nat)=>cs.setIfInBounds (off+p.2) p.1) cells:=by
  rw[<-Array.foldl_toList];simp
 obtain⟨h1,h2⟩:=Y4 off v.cells.toList 0 cells (by simp at hl|-;simp at hlv;omega);rw[e,Dn];refine⟨by simp only[q0v];rw[h1];simp at hl|-;omega,fun k x hx=> ?_⟩;have key:=KQ (R:=RV G) (vs:=cells.toList) (us:=v.cells.toList) hfit om hlv (Dn.1 ha).2 (Dn.1 hv).2 k x hx;obtain⟨u,hu,hr⟩:=key;refine⟨u,?_,hr⟩;rw[<-hu,Array.getElem?_toList,h2 k];have t2:(cells.toList.take off).length=off:=by simp;simp at hl;omega
 by_cases hk:off+0<=k/\k<off+0+v.cells.toList.length
 .rw[zN hk,zu,zl om,t2,zW om];rfl
 .rw[zO hk];rcases q0A k off with h3|h3
  .rw[zu,zW om,q0T,zN h3];simp
  .have t3:(cells.toList.take off++v.cells.toList).length=off+v.cells.toList.length:=by rw[yw,t2]
   rw[zl om,q0Y,t3];rw[show off+v.cells.toList.length+(k-(off+v.cells.toList.length))=k by omega];simp
def Mr(place:Nat->Option (Nat×Nat))(ev:Operand->yv):yq->List (Nat×Operand)->Option (yq)
 |acc,[]=>some acc
 |acc,(i,o)::r=>match place i,ev o with
  |some (off,size),some x=>match PK x with
   |some xs=>match Nat.beq xs.length size,UJ off xs acc with
    |true,some acc'=>Mr place ev acc' r
    |_,_=>none
   |none=>none
  |_,_=>none
def Zb(ρ:Operand->Value)(ps:Array (Nat×Operand)):Array (Nat×Value):=ps.map fun p=>(p.1,ρ p.2)
theorem Nz{G:Gh}{place place':Nat->Option (Nat×Nat)}{ev:Operand->yv}{ρ:Operand->Value}(hp:∀i p,place i=some p->place' i=some p)(hev:∀o x,ev o=some x->RV G x (ρ o)):
  ∀(parts:List (Nat×Operand))(acc:yq)(cells:yd)(res:yq),Mr place ev acc parts=some res->BP G acc cells.toList->
  ∃cs:yd,Instr.fill place' cells (parts.map fun p=>(p.1,ρ p.2))=some cs/\BP G res cs.toList
 |[],acc,cells,res,h,ha=>by
  simp only[Mr,yh]at h;subst h;exact⟨cells,by simp[Instr.fill],ha⟩
 |(i,o)::r,acc,cells,res,h,ha=>by
  simp only[Mr]at h;split at h
  .rename_i off size x hpl hx;split at h
   .rename_i xs hxs;split at h
    .rename_i acc' hb hset;have hb:=zH hb;obtain⟨hfit,rfl⟩:=Oi hset;have hv:=I7 hxs (hev o x hx);have hlv:=BP.NG hv;have hl:=BP.NG ha;obtain⟨cs,h1,h2⟩:=Nz hp hev r _ _ res h (ff ha hv hfit);refine⟨cs,?_,h2⟩;simp only[zV,Instr.fill,hp _ _ hpl];rw[zO]
     .exact h1
     .simp only[q0v]at hlv hl;simp;omega
    .cases h
   .cases h
  .cases h
def Ny(E:Nat->Option Bd)(fs:y4)(i:Nat):Option (Nat×Nat):=
 match fs[i]? with
 |some (off,ft)=>match E ft with
  |some z=>some (off,z.size)
  |none=>none
 |none=>none
def dA(E:Nat->Option Bd):y4->Bool
 |[]=>true
 |(_,ft)::r=>(E ft).isSome&&dA E r
def Vy(E:Nat->Option Bd)(ev:Operand->yv)(t:Nat)(parts:List (Nat×Operand)):yy:=
 match E t with
 |none=>none
 |some y=>match U3 y.zero with
  |none=>none
  |some acc=>match y.k with
   | .st fs=>match Mr (Ny E fs) ev acc parts with
    |some cs=>match mkV true cs with
     |some v=>some (dA E fs,v)
     |none=>none
    |none=>none
   | .arr _ e=>match E e with
    |some z=>match Mr (fun i=>some (i*z.size,z.size)) ev acc parts with
     |some cs=>match mkV true cs with
      |some v=>some (true,v)
      |none=>none
     |none=>none
    |none=>none
   |_=>none
theorem run_places{P:Program}{E:Nat->Option Bd}(hE:CV P E)(w:World):∀(q:List Field),dA E (q.map fun f=>(f.offset,f.type))=true->
  ∃pl:y4,(q.mapM fun f=>(do pure (f.offset,<-sizeOf f.type):Sem (Nat×Nat))).run P w= .ok pl w/\∀i p,Ny E (q.map fun f=>(f.offset,f.type)) i=some p->pl[i]? =some p
 |[],_=>⟨[],sm,by intro i p h;simp[Ny]at h⟩
 |f::q,h=>by
  simp only[zV,dA,yU]at h;obtain⟨pl,h1,h2⟩:=run_places hE w q h.2;obtain⟨z,hz⟩:=Option.isSome_iff_exists.1 h.1;refine⟨(f.offset,z.size)::pl,?_,fun i p hp=> ?_⟩
  .rw[List.mapM_cons];simp only[zf,BV (hE _ z hz),zQ,zk,h1]
  .cases i with
   |zero=>simp[Ny,hz]at hp;simp[hp]
   |succ i=>simpa using h2 i p (by simpa[Ny]using hp)
theorem aF{P:Program}{E:Nat->Option Bd}(hE:CV P E){G:Gh}{w:World}{a:Act}{ev:Operand->yv}(hev:∀o x,ev o=some x->RV G x (a.eval o)){t:Nat}{parts:Array (Nat×Operand)}{y:AV}{c:Bool}(h:Vy E ev t parts.toList=some (c,y))(hc:c=true):
  ∃u,(Instr.build t (Zb a.eval parts)).run P w= .ok u w/\RV G y u:=by
 subst hc;unfold Vy at h;split at h
 .cases h
 .rename_i ty hty;have hy:=hE t ty hty;obtain⟨d,hd,hk',_⟩:=As hy w;obtain⟨zv,hzv,hzc⟩:=FF hy w;split at h
  .cases h
  .rename_i acc hacc;have hz0:BP G acc zv.cells.toList:=by rw[hzc];exact Oq hacc
   have hmap:(Zb a.eval parts).toList=parts.toList.map fun p=>(p.1,a.eval p.2):=by simp[Zb]
   split at h
   .rename_i fs hfs;rw[hfs]at hk';obtain⟨q,rfl,rfl⟩:=Pa hk';split at h
    .rename_i cs hcs;split at h
     .rename_i v hv;simp only[yh,zL]at h;obtain⟨hall,rfl⟩:=h;obtain⟨pl,hpl,hpl2⟩:=run_places hE w q.toList hall;obtain⟨r,hr1,hr2⟩:=Nz (place':=(pl.toArray[·]?)) (fun i p hp=>by simpa using hpl2 i p hp) hev _ _ _ _ hcs hz0;obtain⟨u,hu,hru⟩:=WX hv hr2;simp only[zx]at hu;refine⟨u,?_,hru⟩
      have hpl':(q.mapM fun f=>(do pure (f.offset,<-sizeOf f.type):Sem (Nat×Nat))).run P w= .ok pl.toArray w:=by
       rw[Array.mapM_eq_mapM_toList];simp only[Sem.run_map,hpl,zQ]
      simp only[Instr.build,zf,hzv,zQ,hd,hpl',hmap,hr1,zk];rw[hu]
     .cases h
    .cases h
   .rename_i n e hk;rw[hk]at hk';have hk':=Iz hk';subst hk';split at h
    .rename_i z hz';split at h
     .rename_i cs hcs;split at h
      .rename_i v hv;cases h;obtain⟨r,hr1,hr2⟩:=Nz (place':=fun i=>some (i*z.size,z.size)) (fun i p hp=>hp) hev _ _ _ _ hcs hz0;obtain⟨u,hu,hru⟩:=WX hv hr2;simp only[zx]at hu;refine⟨u,?_,hru⟩;simp only[Instr.build,zf,hzv,zQ,hd,BV (hE _ z hz'),hmap,hr1,zk];rw[hu]
      .cases h
     .cases h
    .cases h
   .cases h
end Go.Gar
namespace Go
def World.setB(w:World)(b:Nat)(o:Obj):World:={w with heap:=w.heap.setIfInBounds b o}
theorem be(w:World)(b c:Nat)(o:Obj)(h:c≠b):(w.setB b o).heap[c]? =w.heap[c]?:=by
 show(w.heap.setIfInBounds b o)[c]? =_;rw[q0P (Ne.symm h)]
theorem VT(w:World)(b:Nat)(o:Obj)(h:b<w.heap.size):(w.setB b o).heap[b]? =some o:=by
 show(w.heap.setIfInBounds b o)[b]? =_;rw[q0K h]
end Go
namespace Go.Gar
def YA:yq->Option (Ao)
 |[]=>some []
 | .d (.i .i64 n)::r=>match YA r with
  |some l=>some (n::l)
  |none=>none
 |_=>none
def S7:yq->Option (Bool×AT)
 |[]=>some (true,[])
 | .d (.i .u8 n)::r=>match S7 r with
  |some (c,l)=>some (decide (0<=n)&&decide (n<256)&&c,UInt8.ofNat n.toNat::l)
  |none=>none
 |_=>none
def PL(sz:Nat):Nat->yq->Option (List (yo))
 |0,[]=>some []
 |0,_::_=>none
 |n+1,cs=>match Mv sz cs with
  |some e=>match He e,PL sz n (JV sz cs)with
   |some ds,some l=>some (ds::l)
   |_,_=>none
  |none=>none
def br(k:K)(sz n:Nat)(cs:yq):Option (Bool×D):=
 match k with
 | .int .i64=>match YA cs with
  |some l=>some (true,.is l)
  |none=>none
 | .int .u8=>match S7 cs with
  |some (c,l)=>some (c,.by l)
  |none=>none
 |_=>match PL sz n cs with
  |some l=>some (true,.sl sz l)
  |none=>none
variable {cs:yq}
theorem m6{l:Ao}(h:YA cs=some l):cs=(slc (.is l)).map .d:=by
 induction cs generalizing l with
 |nil=>simp[YA]at h;subst h;rfl
 |cons x r ih=>
  unfold YA at h;split at h
  .rename_i heq;cases heq
  .rename_i n r' heq;cases heq;split at h
   .rename_i q hq;cases h;have:=ih hq;simp[slc]at this|-;exact this
   .cases h
  .cases h
variable {c:Bool}
theorem fN{l:AT}(h:S7 cs=some (c,l))(hc:c=true):cs=(slc (.by l)).map .d:=by
 induction cs generalizing l c with
 |nil=>simp[S7]at h;obtain⟨_,rfl⟩:=h;rfl
 |cons x r ih=>
  unfold S7 at h;split at h
  .rename_i heq;cases heq
  .rename_i n r' heq;cases heq;split at h
   .rename_i c' q hq;simp only[yh,zL]at h;obtain⟨h1,rfl⟩:=h;rw[<-h1]at hc;simp only[yU,yc]at hc;obtain⟨⟨h0,h2⟩,hc⟩:=hc;have:=ih hq hc;simp[slc]at this|-;exact⟨om,this⟩
   .cases h
  .cases h
theorem UY{sz:Nat}:∀{n:Nat}{cs:yq}{l:List (yo)},PL sz n cs=some l->cs.length=n*sz->cs=l.flatten.map .d/\l.length=n/\∀e∈l,e.length=sz
 |0,[],l,h,_=>by simp[PL]at h;subst h;simp
 |0,x::cs,l,h,_=>by simp[PL]at h
 |n+1,cs,l,h,hl=>by
  simp only[PL]at h;split at h
  .rename_i e he;split at h
   .rename_i ds r hds hr;cases h;obtain⟨h1,h2⟩:=Jn he;rw[GI]at hr;obtain⟨g1,g2,g3⟩:=UY hr (by rw[q15,hl,q0i];omega);have hd:=cz hds;refine⟨?_,by simp[g2],fun x hx=> ?_⟩
    .rw[q0U,zS,<-g1,<-hd,h1,q0J]
    .rcases q0C.1 hx with rfl|hx
     .rw[hd]at h2;simpa using h2
     .exact g3 x hx
   .cases h
  .cases h
variable {n:Nat}{q:D}
theorem jA{k:K}{sz:Nat}(h:br k sz n cs=some (c,q))(hc:c=true)(hl:cs.length=n*sz)(hk:(k= .int .i64\/k= .int .u8)->sz=1):
  cs=(slc q).map .d/\B8 q=true/\Aq q/\B3 q=n/\(Bt q=sz):=by
 subst hc;unfold br at h;split at h
 .split at h
  .rename_i l hi;cases h;have e:=hk (.inl rfl);have h1:=m6 hi;refine⟨h1,rfl,trivial,?_,e.symm⟩;have h2:=congrArg List.length h1;simp[slc]at h2;simp[B3];rw[e]at hl;omega
  .cases h
 .split at h
  .rename_i c' l hi;simp only[yh,zL]at h;obtain⟨rfl,rfl⟩:=h;have e:=hk (.inr rfl);have h1:=fN hi rfl;refine⟨h1,rfl,trivial,?_,e.symm⟩;have h2:=congrArg List.length h1;simp[slc]at h2;simp[B3];rw[e]at hl;omega
  .cases h
 .split at h
  .rename_i l hi;cases h;obtain⟨h1,h2,h3⟩:=UY hi hl;exact⟨h1,rfl,h3,h2,rfl⟩
  .cases h
def JN(n:Nat)(zs:yq):yq:=
 match n with
 |0=>[]
 |n+1=>zs++JN n zs
theorem KR{zs:yq}:∀{n:Nat},(JN n zs).length=n*zs.length
 |0=>by simp[JN]
 |n+1=>by simp[JN,KR (n:=n),q0i];omega
theorem U4{zs:yq}:∀{n k:Nat}{x:AV},(JN n zs)[k]? =some x->zs[k%zs.length]? =some x
 |0,k,x,h=>by simp[JN]at h
 |n+1,k,x,h=>by
  simp only[JN]at h;rcases q0A k zs.length with hk|hk
  .rw[zW hk]at h;rw[Nat.mod_eq_of_lt hk];exact h
  .rw[zl hk]at h;have:=U4 h;rwa [<-Nat.mod_eq_sub_mod hk]at this
variable {G:Gh}
theorem mV{zs:yq}{z:yd}(hz:BP G zs z.toList)(n m:Nat)(hm:m=n*z.size):BP G (JN n zs) (madeCells z m).toList:=by
 have hl:=BP.NG hz;simp only[q0v]at hl;rw[Dn];refine⟨by simp[madeCells,KR,hm,hl],fun k x hx=> ?_⟩;have hk:=(yZ.1 hx).1;rw[KR]at hk;obtain⟨v,hv,hr⟩:=(Dn.1 hz).2 _ x (U4 hx);refine⟨v,?_,hr⟩;have hlt:k%zs.length<z.size:=(yZ.1 hv).1;have h2:=(yZ.1 hv).2;simp only[Array.getElem_toList]at h2;have hkm:k<m:=by rw[hm,hl];exact hk
 simp only[madeCells,Array.getElem?_toList,Array.getElem?_map,Array.getElem?_range,zN hkm,Option.map_some];rw[hl]
 congr 1
 rw[getElem!_pos z _ hlt];exact h2
def Nq(E:Nat->Option Bd)(ev:Operand->yv)(t len:Nat)(parts:List (Nat×Operand)):Option (Bd×yq):=
 match E t with
 |none=>none
 |some y=>match y.k with
  | .sl e=>match E e with
   |none=>none
   |some z=>match U3 z.zero with
    |none=>none
    |some zs=>match Mr (fun i=>some (i*z.size,z.size)) ev (JN len zs) parts with
     |some cs=>some (z,cs)
     |none=>none
  |_=>none
variable {P:Program}{E:Nat->Option Bd}{w:World}{a:Act}{ev:Operand->yv}{t len:Nat}{parts:Array (Nat×Operand)}
theorem S6(hE:CV P E)(hev:∀o x,ev o=some x->RV G x (a.eval o)){z:Bd}(h:Nq E ev t len parts.toList=some (z,cs))(hsz:len*z.size<=16777216):
  ∃e,Gp P e=some z/\P.underlying t=some (.slice e)/\∃cur:yd,BP G cs cur.toList/\cs.length=len*z.size/\
   (Instr.buildSlice t len (Zb a.eval parts)).run P w= .ok (.slice (some ⟨w.heap.size,0,none⟩) len len) (w.alloc (.cells cur e)):=by
 unfold Nq at h;split at h
 .cases h
 .rename_i y hy';have hy:=hE t y hy';obtain⟨d,hd,hk',hut⟩:=As hy w;split at h
  .rename_i e hk;rw[hk]at hk';have hk':=Eh hk';subst hk';split at h
   .cases h
   .rename_i z' hz';have hz:=hE e z' hz';split at h
    .cases h
    .rename_i zs hzs;split at h
     .rename_i cs' hcs;cases h;obtain⟨zv,hzv,hzc⟩:=FF hz w;have hzl:=M0 hz;have hrz:BP G zs zv.cells.toList:=by rw[hzc];exact Oq hzs
      have hzvs:zv.cells.size=z.size:=by rw[<-hzl,<-hzc];simp
      have hzsl:zs.length=z.size:=by have:=BP.NG hrz;rw[<-hzl,<-hzc];exact this.symm
      have hmade:=mV hrz len (len*z.size) (by rw[hzvs]);obtain⟨cur,h1,h2⟩:=Nz (place':=fun i=>some (i*z.size,z.size)) (fun i p hp=>hp) hev _ _ _ _ hcs hmade;have hmap:(Zb a.eval parts).toList=parts.toList.map fun p=>(p.1,a.eval p.2):=by simp[Zb]
      refine⟨e,hz,hut,cur,h2,?_,?_⟩
      .have g1:=BP.NG h2;have g2:(JN len zs).length=len*z.size:=by rw[KR,hzsl]
       have:∀(ps:List (Nat×Operand))(acc res:yq),Mr (fun i=>some (i*z.size,z.size)) ev acc ps=some res->res.length=acc.length:=by
        intro ps
        induction ps with
        |nil=>intro acc res h;simp[Mr]at h;rw[h]
        |cons p r ih=>
         intro acc res h;obtain⟨i,o⟩:=p;simp only[Mr]at h;split at h
         .split at h
          .split at h
           .rename_i _ hset;obtain⟨hf,rfl⟩:=Oi hset;rw[ih _ _ h];simp;omega
           .cases h
          .cases h
         .cases h
       rw[this _ _ _ hcs,g2]
      .have h0:¬(len*z.size>2^24):=om
       simp only[Instr.buildSlice,zf,hd,zQ,BV hz,Sem.run_ite,zO h0,hmap]
       by_cases hz0:len*z.size=0
       .have hm0:madeCells zv.cells (len*z.size)=(Array.range (len*z.size)).map fun x=>(#[]:yd)[x%(#[]:yd).size]!:=by
         rw[hz0];simp[madeCells]
        rw[zN hz0];simp only[zk,zQ];rw[<-hm0,h1];simp[newRow]
       .rw[zO hz0];simp only[hzv,zQ,zk,zf];have hm1:madeCells zv.cells (len*z.size)=(Array.range (len*z.size)).map fun x=>zv.cells[x%zv.cells.size]!:=rfl
        rw[<-hm1,h1];simp[newRow]
     .cases h
  .cases h
def qJ:AV->AV
 | .e0=> .d (.is [])
 |x=>x
theorem dJ{G:Gh}:∀{cs:yq}{vs:y6},BP G cs vs->BP G (cs.map qJ) vs
 |[],_,h=>h
 |x::r,vs,h=>by
  simp only[zV,BP]at h|-;obtain⟨v,vs',rfl,h1,h2⟩:=h;refine⟨v,vs',rfl,?_,dJ h2⟩;unfold qJ;split
  .simp only[RV]at h1|-;obtain⟨a,rfl⟩:=h1;exact(Ek (x:=.is []) rfl).2 ⟨a,0,rfl,yx _,trivial,.inl rfl⟩
  .exact h1
def IN(E:Nat->Option Bd)(ev:Operand->yv)(t len:Nat)(parts:List (Nat×Operand)):Option (Bool×D):=
 match Nq E ev t len parts with
 |some (z,cs)=>match br z.k z.size len (cs.map qJ)with
  |some (c,q)=>some (c&&decide (len*z.size<=16777216)&&decide (len<=9223372036854775807)&&(match z.k with| .int _=>Nat.beq z.size 1|_=>true)&&Do (slc q),q)
  |none=>none
 |none=>none
theorem Rn:∀{l:yo},Do l=true->∀{k:Nat}{d:D},l[k]? =some d->d.one=true
 |[],_,k,d,h=>by simp at h
 |x::r,ho,k,d,h=>by
  simp only[Do,yU]at ho
  cases k with
  |zero=>simp at h;subst h;exact ho.1
  |succ k=>exact Rn ho.2 (by simpa using h)
theorem N9(hE:CV P E)(hev:∀o x,ev o=some x->RV G x (a.eval o))(h:IN E ev t len parts.toList=some (c,q))(hc:c=true):
  B8 q=true/\Aq q/\B3 q=len/\len<=maxLen/\∃e,∃cur:yd,cur.size=len*Bt q/\(Instr.buildSlice t len (Zb a.eval parts)).run P w= .ok (.slice (some ⟨w.heap.size,0,none⟩) len len) (w.alloc (.cells cur e))/\
   ∀(k:Nat)(d:D),(slc q)[k]? =some d->∃v,cur[k]? =some v/\v.oneCell'=true/\RD G.m d v:=by
 subst hc;unfold IN at h;split at h
 .rename_i z cs hcs;split at h
  .rename_i c' q' hq;simp only[yh,zL,yU,yc]at h;obtain⟨⟨⟨⟨⟨hc,h1⟩,h2⟩,h3⟩,h4⟩,rfl⟩:=h;obtain⟨e,hz,hut,cur,g1,g2,g3⟩:=S6 hE (w:=w) hev hcs h1;replace g1:=dJ g1;replace g2:(cs.map qJ).length=len*z.size:=by rw[zY];exact g2
   have hk1:(z.k= .int .i64\/z.k= .int .u8)->z.size=1:=by
    rintro(hk|hk)<;>rw[hk]at h3<;>exact zH h3
   obtain⟨k1,k2,k3,k4,k5⟩:=jA hq hc g2 hk1;have hl:=BP.NG g1;refine⟨k2,k3,k4,by simp[maxLen];omega,e,cur,by rw[k5,<-g2,<-hl];simp,g3,fun k d hd=> ?_⟩;obtain⟨v,hv,hr⟩:=(Dn.1 g1).2 k (.d d) (by rw[k1];simp[hd]);simp only[RV]at hr;exact⟨v,by simpa using hv,Ze (Rn h4 hd) hr,hr⟩
  .cases h
 .cases h
theorem Xf(hE:CV P E)(hr:B9 G w)(hev:∀o x,ev o=some x->RV G x (a.eval o))(h:IN E ev t len parts.toList=some (c,q))(hc:c=true):Yields P G w (Instr.buildSlice t len (Zb a.eval parts)) (.d q):=by
 obtain⟨hs,ho,hn,_,e,cur,_,hrun,hcell⟩:=N9 hE (w:=w) hev h hc;obtain⟨hr2,hf2⟩:=WQ hr cur e (0,0) cur.toList (fun k v hv=>by simpa using hv);refine⟨_,_,G.lay w.heap.size cur.toList,hrun,?_,rfl,hr2,hf2⟩;simp only[RV];refine(Ek hs).2 ⟨_,len,by rw[hn],om,ho,.inr ⟨w.heap.size,0,rfl,fun k d hd=> ?_⟩⟩;obtain⟨v,hv,h1,hr⟩:=hcell k d hd;refine⟨v,?_,h1,hr.mono (hf2.gle.mem)⟩;show(if w.heap.size=w.heap.size then cur.toList[0+k]? else _)=_;rw[zN rfl,q0M];simpa using hv
theorem Zs(hE:CV P E)(hr:B9 G w)(hev:∀o x,ev o=some x->RV G x (a.eval o))(h:IN E ev t len parts.toList=some (c,q))(hc:c=true):H9 P G w (Instr.buildSlice t len (Zb a.eval parts)) (.sl G.H.length (B3 q) (Bt q)) (G.H++[.a q]):=by
 obtain⟨hs,ho,hn,hm,e,cur,hcz,hrun,hcell⟩:=N9 hE (w:=w) hev h hc
 obtain⟨hr2,hf2⟩:=TK hr cur e (.a q) (by
  refine⟨hs,ho,.inr ⟨w.heap.size,cur.size,cur,e,by simp[Gh.own],heap_alloc_new _ _,rfl,fun k d hd=> ?_⟩⟩;obtain⟨v,hv,h1,hr⟩:=hcell k d hd
  exact⟨v,hv,h1,hr⟩)
 refine⟨_,_,_,hrun,?_,rfl,hr2,hf2⟩;simp only[RV];exact⟨rfl,.a q,by simp[Gh.own],rfl,yV _,fun _=> .inr ⟨w.heap.size,cur.size,len,by simp[Gh.own],by rw[hn],om,hm,hcz⟩⟩
theorem fM(hE:CV P E)(hr:B9 G w)(hev:∀o x,ev o=some x->RV G x (a.eval o))(h:IN E ev t 0 parts.toList=some (c,q))(hc:c=true):Yields P G w (Instr.buildSlice t 0 (Zb a.eval parts)) .e0:=by
 obtain⟨hs,ho,hn,_,e,cur,_,hrun,hcell⟩:=N9 hE (w:=w) hev h hc;obtain⟨hr2,hf2⟩:=WQ hr cur e (0,0) [] (fun k v hv=>by simp at hv);exact⟨_,_,G.lay w.heap.size [],hrun,by simp only[RV];exact⟨_,rfl⟩,rfl,hr2,hf2⟩
theorem Vt(hE:CV P E)(hr:B9 G w)(hev:∀o x,ev o=some x->RV G x (a.eval o)){z:Bd}(h:Nq E ev t len parts.toList=some (z,cs))(hsz:len*z.size<=16777216):H9 P G w (Instr.buildSlice t len (Zb a.eval parts)) (.bs G.H.length 0 len z.size cs.length) (G.H++[.c cs]):=by
 obtain⟨e,hz,hut,cur,g1,g2,g3⟩:=S6 hE (w:=w) hev h hsz;have hgl:=M6 G w.heap.size cur.size (.c cs);have hl:=BP.NG g1;simp only[q0v]at hl
 obtain⟨hr2,hf2⟩:=TK hr cur e (.c cs) (by
  refine⟨w.heap.size,cur.size,cur,e,by simp[Gh.own],heap_alloc_new _ _,rfl,om,fun k x hx=> ?_⟩;obtain⟨v,hv,hr⟩:=(Dn.1 g1).2 k x hx
  exact⟨v,by simpa using hv,hr.mono hgl⟩)
 refine⟨_,_,_,g3,?_,rfl,hr2,hf2⟩;simp only[RV];exact⟨rfl,.c cs,by simp[Gh.own],rfl,om,w.heap.size,cur.size,len,by simp[Gh.own],rfl,om,om⟩
def aJ(E:Nat->Option Bd)(t:Nat)(l c:AV):Option (Bool×D):=
 match l,c with
 | .d (.i _ n),.d (.i _ m)=>match E t with
  |none=>none
  |some y=>match y.k with
   | .sl e=>match E e with
    |none=>none
    |some z=>match Q0 z.zero with
     |none=>none
     |some zs=>some (decide (0<=n)&&decide (n<=m)&&decide (m<=9223372036854775807)&&decide ((z.bytes:Int)*m<=281474976710656),My z.k z.size n.toNat zs)
   |_=>none
 |_,_=>none
theorem Vb{m:Mem}:∀{vs:y6}{l:yo},Q0 vs=some l->l.length=vs.length/\∀(k:Nat)(d:D),l[k]? =some d->∃v,vs[k]? =some v/\v.oneCell'=true/\RD m d v
 |[],l,h=>by simp[Q0]at h;subst h;simp
 |v::r,l,h=>by
  simp only[Q0]at h
  have fin:∀{d:D}{q:yo},Q0 r=some q->v.oneCell'=true->RD m d v->(d::q).length=(v::r).length/\∀(k:Nat)(d':D),(d::q)[k]? =some d'->∃u,(v::r)[k]? =some u/\u.oneCell'=true/\RD m d' u:=by
   intro d q hq h1 h2;obtain⟨g1,g2⟩:=Vb hq;refine⟨by simp[g1],fun k d' hd=> ?_⟩
   cases k with
   |zero=>simp at hd;subst hd;exact⟨v,sm,h1,h2⟩
   |succ k=>simpa using g2 k d' (by simpa using hd)
  split at h
  .rename_i hq;cases h;exact fin hq rfl (by simp[RD])
  .rename_i hq;cases h;exact fin hq rfl (by simp[RD])
  .rename_i hq;cases h;exact fin hq rfl (by simp[RD])
  .rename_i hq;cases h;exact fin hq rfl (by simp only[RD];exact⟨none,0,rfl,sm,.inl trivial⟩)
  .cases h
theorem Y3{α:Type}{zs:List α}:∀{n k:Nat}{d:α},(List.replicate n zs).flatten[k]? =some d->k<n*zs.length/\zs[k%zs.length]? =some d
 |0,k,d,h=>by simp at h
 |n+1,k,d,h=>by
  simp only[List.replicate_succ,q0U]at h;rcases q0A k zs.length with hk|hk
  .rw[zW hk]at h;rw[Nat.mod_eq_of_lt hk];exact⟨by rw[q0i];omega,h⟩
  .rw[zl hk]at h;obtain⟨h1,h2⟩:=Y3 h;exact⟨by rw[q0i];omega,by rwa [<-Nat.mod_eq_sub_mod hk]at h2⟩
theorem pB{k:K}{sz:Nat}{zs:yo}(hl:zs.length=sz):B8 (My k sz n zs)=true/\Aq (My k sz n zs)/\B3 (My k sz n zs)=n/\Bt (My k sz n zs)=sz/\
  ∀(j:Nat)(d:D),(slc (My k sz n zs))[j]? =some d->j<n*sz/\zs[j%sz]? =some d:=by
 unfold My;split
 .simp only[yu,zI,q0M]at hl;subst hl;refine⟨rfl,trivial,by simp[B3],rfl,fun j d hd=> ?_⟩;simp only[slc,List.map_replicate,List.getElem?_replicate]at hd;split at hd
  .cases hd;simp[Nat.mod_one];omega
  .cases hd
 .simp only[yu,zI,q0M]at hl;subst hl;refine⟨rfl,trivial,by simp[B3],rfl,fun j d hd=> ?_⟩;simp only[slc,List.map_replicate,List.getElem?_replicate]at hd;split at hd
  .cases hd;simp[Nat.mod_one];omega
  .cases hd
 .refine⟨rfl,?_,by simp[B3],rfl,fun j d hd=> ?_⟩
  .intro e he;rw[List.eq_of_mem_replicate he];exact hl
  .have:=Y3 hd;rw[hl]at this;exact this
theorem fX(hE:CV P E)(hr:B9 G w){l c:AV}{cc:Bool}(h:aJ E t l c=some (cc,q))(hc:cc=true){vl vc:Value}(hl:RV G l vl)(hcap:RV G c vc):
  H9 P G w (Instr.makeSlice t vl vc) (.sl G.H.length (B3 q) (Bt q)) (G.H++[.a q]):=by
 subst hc;unfold aJ at h;split at h
 .rename_i kn n km m;simp only[RV,RD]at hl hcap;subst hl;subst hcap;split at h
  .cases h
  .rename_i y hy';have hy:=hE t y hy';obtain⟨d,hd,hk',hut⟩:=As hy w;split at h
   .rename_i e hk;rw[hk]at hk';have hk':=Eh hk';subst hk';split at h
    .cases h
    .rename_i z hz';have hz:=hE e z hz';split at h
     .cases h
     .rename_i zs hzs;simp only[yh,zL,yU,yc]at h;obtain⟨⟨⟨⟨h0,h1⟩,h2⟩,h3⟩,rfl⟩:=h;obtain⟨i,d2,z0,i1,i2,i3,i4,i5,i6,i7,i8⟩:=Ct hz;have hrun:=run_make (P:=P) w t e i z0 hut i1 i3 kn km n m h0 h1 (by rw[<-i6];exact h3) h2;obtain⟨g1,g2⟩:=Vb (m:=G.m) hzs;have hzl:=M0 hz;have hz0:z0.cells.size=z.size:=by rw[<-hzl,i8];simp
      obtain⟨k1,k2,k3,k4,k5⟩:=pB (k:=z.k) (n:=n.toNat) (g1.trans hzl)
      obtain⟨hr2,hf2⟩:=TK hr (madeCells z0.cells (m.toNat*i.size)) e (.a (My z.k z.size n.toNat zs)) (by
       refine⟨k1,k2,.inr ⟨w.heap.size,_,_,e,by simp[Gh.own],heap_alloc_new _ _,rfl,fun j d hd=> ?_⟩⟩;obtain⟨j1,j2⟩:=k5 j d hd;obtain⟨v,hv,h1c,hr⟩:=g2 _ d j2;refine⟨v,?_,h1c,hr⟩
       have hjm:j<m.toNat*i.size:=by
        rw[<-i5];exact q0p j1 (q1b _ om)
       rw[i8]at hv;have hlt:j%z.size<z0.cells.size:=by simpa using(yZ.1 hv).1
       have h2:=(yZ.1 hv).2;simp only[Array.getElem_toList]at h2;simp only[madeCells,Array.getElem?_map,Array.getElem?_range,zN hjm,Option.map_some,hz0]
       congr 1
       rw[getElem!_pos z0.cells _ hlt]
       exact h2)
      refine⟨_,_,_,hrun,?_,rfl,hr2,hf2⟩;simp only[RV];refine⟨rfl,.a _,by simp[Gh.own],rfl,yV _,fun _=> .inr ⟨w.heap.size,_,m.toNat,by simp[Gh.own];rfl,by rw[k3],om,by simp[maxLen];omega,?_⟩⟩;rw[size_madeCells,k4,i5]
   .cases h
 .cases h
theorem eE(h:B9 G w)(obj:Obj)(N0:Nat)(blk:AF)(hB:BR (G.own w.heap.size N0 blk) (w.alloc obj) G.H.length blk)(hnm:∀rs,blk≠ .many rs:=by intro _ e;cases e):
  B9 (G.own w.heap.size N0 blk) (w.alloc obj)/\D4 G w (G.own w.heap.size N0 blk) (w.alloc obj):=by
 have hg:=M6 G w.heap.size N0 blk
 have hS:∀(id:Nat)(rs:List (Option (Nat×Nat×AT))),(G.own w.heap.size N0 blk).H[id]? =some (.many rs)->G.H[id]? =some (.many rs):=by
  intro id rs hq;rcases HD hq with⟨_,h2,_⟩|⟨_,h2,_⟩
  .exact h2
  .exact absurd h2.symm (hnm rs)
 have hP:∀b,EX (G.own w.heap.size N0 blk) b->EX G b\/b=w.heap.size:=by
  rintro b ⟨id,N,q,hq,hl,hρ⟩;rcases HD hq with⟨_,h2,h3⟩|⟨_,_,h3⟩
  .exact .inl ⟨id,N,q,h2,hl,by rw[<-h3];exact hρ⟩
  .rw[h3]at hρ;cases hρ;exact .inr rfl
 have hold:=Wh hS hP;refine⟨⟨?_,?_,?_,?_,h.st,h.mny.of (fun b hb=>Bq h (.inr hb)) hS (fun b hb=>(hP b hb).imp_right (fun e=>Nat.le_of_eq e.symm))⟩,⟨rfl,rfl,rfl,sm,?_,fun b k v hv=> .inl hv,hg⟩⟩
 .intro id q hq;rcases HD hq with⟨h1,h2,h3⟩|⟨h1,h2,h3⟩
  .refine(h.blk id q h2).QH hg (fun b N hl hρ=> ?_) h3 (fun rs e c hc=>q1U w _ c (Bq h (.inr ⟨id,rs,by rw[<-e];exact h2,hc⟩)));exact q1U w _ b (Bq h (.inl ⟨id,N,q,h2,hl,hρ⟩))
  .subst h1;subst h2;exact hB
 .intro id id' p q b N N' hp hq lp lq r1 r2;rcases HD hp with⟨h1,h2,h3⟩|⟨h1,h2,h3⟩<;>rcases HD hq with⟨k1,k2,k3⟩|⟨k1,k2,k3⟩
  .rw[h3]at r1;rw[k3]at r2;exact h.inj id id' p q b N N' h2 k2 lp lq r1 r2
  .rw[h3]at r1;rw[k3]at r2;cases r2;have:=Bq h (.inl ⟨id,N,p,h2,lp,r1⟩);omega
  .rw[h3]at r1;rw[k3]at r2;cases r1;have:=Bq h (.inl ⟨id',N',q,k2,lq,r2⟩);omega
  .omega
 .intro b k v hv;have hv:G.m b k=some v:=hv;rw[World.cell?_alloc_lt _ _ _ (IX h hv)];exact h.mem b k v hv
 .intro b ho k;show G.m b k=none;rcases hold b ho with h1|rfl
  .exact h.sep b h1 k
  .cases hv:G.m w.heap.size k with
   |none=>rfl
   |some v=>have:=IX h hv;omega
 .intro b hb ho;refine⟨q1U w _ b hb,fun h1=> ?_⟩;rcases hold b h1 with h1|rfl
  .exact ho h1
  .omega
variable {b:Nat}
theorem eL(h:B9 G w){id N:Nat}{o q:AF}{obj:Obj}(ho:G.H[id]? =some o)(hl:o.live=true)(hl':q.live=true)(hρ:G.ρ id=some (b,N))(hs:Ap G (G.put id q) id o q)(hB:BR (G.put id q) (w.setB b obj) id q):B9 (G.put id q) (w.setB b obj)/\D4 G w (G.put id q) (w.setB b obj):=by
 have hid:id<G.H.length:=(yZ.1 ho).1
 have hget:∀{j:Nat}{p:AF},(G.put id q).H[j]? =some p->(j=id/\p=q)\/(j≠id/\G.H[j]? =some p):=by
  intro j p hp;have hp:(G.H.set id q)[j]? =some p:=hp
  by_cases e:j=id
  .subst e;rw[q08 hid]at hp;cases hp;exact .inl ⟨rfl,rfl⟩
  .rw[q06 (Ne.symm e)]at hp;exact .inr ⟨e,hp⟩
 have hS:∀(j:Nat)(rs:List (Option (Nat×Nat×AT))),(G.put id q).H[j]? =some (.many rs)->G.H[j]? =some (.many rs):=by
  intro j rs hp;rcases hget hp with⟨_,e⟩|⟨_,hp⟩
  .rw[<-e]at hl';simp[AF.live]at hl'
  .exact hp
 have hP:∀c,EX (G.put id q) c->EX G c:=by
  rintro c ⟨j,M,p,hp,lp,hr⟩;rcases hget hp with⟨rfl,rfl⟩|⟨e,hp⟩
  .exact⟨j,M,o,ho,hl,hr⟩
  .exact⟨j,M,p,hp,lp,hr⟩
 have hown:∀c,Own (G.put id q) c↔Own G c:=by
  intro c;refine⟨JM hS hP c,?_⟩;rintro(⟨j,M,p,hp,lp,hr⟩|⟨j,rs,hp,hc⟩)
  .by_cases e:j=id
   .subst e;exact .inl ⟨j,M,q,by show(G.H.set j q)[j]? =some q;rw[q08 hid],hl',hr⟩
   .exact .inl ⟨j,M,p,by show(G.H.set id q)[j]? =some p;rw[q06 (Ne.symm e)];exact hp,lp,hr⟩
  .refine .inr ⟨j,rs,?_,hc⟩
   by_cases e:j=id
   .subst e;rw[ho]at hp;cases hp;simp[AF.live]at hl
   .show(G.H.set id q)[j]? =_;rw[q06 (Ne.symm e)];exact hp
 have hgl:Iq G (G.put id q):=⟨fun j p hp=>by
  by_cases e:j=id
  .subst e;rw[ho]at hp;cases hp;exact⟨q,by show(G.H.set j q)[j]? =some q;rw[q08 hid],hs⟩
  .exact⟨p,by show(G.H.set id q)[j]? =some p;rw[q06 (Ne.symm e)];exact hp,by cases p<;>simp[Ap,Gh.put]⟩,Mem.le_refl _⟩
 have hoth:∀c,c≠b->(w.setB b obj).heap[c]? =w.heap[c]?:=fun c hc=>be w b c obj hc;refine⟨⟨?_,?_,?_,?_,h.st,h.mny.of (fun b hb=>Bq h (.inr hb)) hS (fun c hc=> .inl (hP c hc))⟩,⟨rfl,rfl,rfl,by simp[World.setB],?_,fun _ _ _ hv=> .inl hv,hgl⟩⟩
 .intro j p hp;rcases hget hp with⟨rfl,rfl⟩|⟨e,hp⟩
  .exact hB
  .refine(h.blk j p hp).QH hgl (fun c M lp hr=>hoth c ?_) rfl (fun rs e c hc=>hoth c fun e'=>by subst e';subst e;exact((h.mny j rs hp).2 c hc).1 ⟨id,N,o,ho,hl,hρ⟩);intro hcb;subst hcb;exact e (h.inj j id p o c M N hp ho lp hl hr hρ)
 .intro j j' p p' c M M' hp hp' lp lp' r1 r2;rcases hget hp with⟨e1,e2⟩|⟨e,hp2⟩<;>rcases hget hp' with⟨e3,e4⟩|⟨e',hp2'⟩
  .exact e1.trans e3.symm
  .subst e1;subst e2;exact h.inj _ _ o p' c M M' ho hp2' hl lp' r1 r2
  .subst e3;subst e4;exact h.inj _ _ p o c M M' hp2 ho lp hl r1 r2
  .exact h.inj _ _ p p' c M M' hp2 hp2' lp lp' r1 r2
 .intro c k v hv;have hv:G.m c k=some v:=hv
  have hcb:c≠b:=by
   intro e;subst e;rw[h.sep c (.inl ⟨id,N,o,ho,hl,hρ⟩) k]at hv;cases hv
  rw[World.cell?_of_block (w:=w) (hoth c hcb)];exact h.mem c k v hv
 .intro c hc k;exact h.sep c ((hown c).1 hc) k
 .intro c hc hno;refine⟨hoth c ?_,fun h1=>hno ((hown c).1 h1)⟩;intro e;subst e;exact hno (.inl ⟨id,N,o,ho,hl,hρ⟩)
def sameD:D->D->Option Bool
 | .i k a,.i k' b=>if k=k' then some (a==b)else none
 |_,_=>none
def QO(k:D):z6->Option (yv)
 |[]=>some none
 |(k',x)::r=>match sameD k k' with
  |some true=>some (some x)
  |some false=>QO k r
  |none=>none
theorem K6{G:Gh}{k:D}{kv:Value}{kk:IntKind}(hk:RD G.m k kv):∀{es:z6}{ms:List MapEntry}{r:yv}(i:Nat),QO k es=some r->ms.length=es.length->
  (∀(j:Nat)(q:D×AV),es[j]? =some q->∃e:MapEntry,ms[j]? =some e/\RD G.m q.1 e.key/\RV G q.2 e.val)->
  (r=none->Instr.findNow (.int kk) kv ms i=some none)/\(∀x,r=some x->∃j v,Instr.findNow (.int kk) kv ms i=some (some (j,v))/\RV G x v)
 |[],ms,r,i,h,hl,hm=>by
  have:ms=[]:=by simpa using hl
  subst this;simp only[QO,yh]at h;subst h;exact⟨fun _=>rfl,fun x hx=>(by cases hx)⟩
 |(k',x)::es,ms,r,i,h,hl,hm=>by
  cases ms with
  |nil=>simp at hl
  |cons e ms=>
   obtain⟨e',he',hk',hx'⟩:=hm 0 (k',x) rfl;simp at he';subst he';simp only[QO]at h
   have key:∀b,sameD k k'=some b->Instr.sameNow (.int kk) kv e.key=some b:=by
    intro b hb;unfold sameD at hb;split at hb
    .rename_i k1 a k2 c;simp only[RD]at hk hk';subst hk;rw[hk'];split at hb
     .rename_i hkk;cases hb;simp[Instr.sameNow,hkk]
     .cases hb
    .cases hb
   split at h
   .rename_i hs;cases h;refine⟨fun hh=>(by cases hh),fun y hy=> ?_⟩;cases hy;exact⟨i,e.val,by simp[Instr.findNow,key _ hs],hx'⟩
   .rename_i hs
    have:=K6 hk (es:=es) (ms:=ms) (r:=r) (kk:=kk) (i+1) h (by simpa using hl) (fun j q hq=>by
     obtain⟨e2,h2,h3⟩:=hm (j+1) q (by simpa using hq)
     exact⟨e2,by simpa using h2,h3⟩)
    simpa[Instr.findNow,key _ hs]using this
   .cases h
variable {v:Value}
theorem Nr{empty:Bool}{t:TypeId}{kk:IntKind}(hu:P.underlying t=some (.int kk)):(Instr.checkKey empty (n+1) t v).run P w= .ok () w:=by
 unfold Instr.checkKey;simp only[underlying,zf,run_program,zQ,hu,zk]
theorem Dx{y:Bd}(h:Gp P t=some y):∃d,P.underlying t=some d/\P3 d=y.k:=by
 obtain⟨i,d,z,h1,h2,h3,h4,h5,h6,h7,h8⟩:=Ct h;exact⟨d,h2,h4.symm⟩
def PY:K->Bool
 | .int _=>true
 |_=>false
theorem ah(hr:B9 G w)(t:TypeId):H9 P G w (Instr.makeMap t none) (.mp G.H.length) (G.H++[.m []]):=by
 obtain⟨h1,h2⟩:=eE hr (.map #[] 0) 0 (.m []) ⟨w.heap.size,0,#[],0,by simp[Gh.own],heap_alloc_new _ _,rfl,fun k q hq=>by simp at hq⟩;refine⟨.map (some w.heap.size),_,_,rfl,?_,rfl,h1,h2⟩;simp only[RV];exact⟨rfl,.m [],by simp[Gh.own],w.heap.size,0,by simp[Gh.own],rfl⟩
def W3(E:Nat->Option Bd)(H:yz)(t:Nat)(x k:AV)(ok:Bool):yy:=
 match x,k with
 | .mp id,.d k=>match H[id]?,E t with
  |some (.m es),some y=>match y.k with
   | .mp kt et=>match E kt,E et with
    |some yk,some ye=>match QO k es with
     |some (some v)=>some (PY yk.k,if ok then .tup [v,.d (.b true)]else v)
     |some none=>some (PY yk.k,if ok then .tup [.u,.d (.b false)]else .u)
     |none=>none
    |_,_=>none
   |_=>none
  |_,_=>none
 |_,_=>none
theorem ud(hE:CV P E){y:Bd}(h:E t=some y)(hk:PY y.k=true):∃kk,P.underlying t=some (.int kk):=by
 obtain⟨d,hu,hd⟩:=Dx (hE t y h);cases hy:y.k<;>rw[hy]at hk hd<;>simp only[PY,reduceCtorEq]at hk;exact⟨_,by rw[hu,J0 hd]⟩
variable {ms:Array MapEntry}
theorem Sf{c:Nat}(h:w.heap[b]? =some (.map ms c)):(getObj b).run P w= .ok (.map ms c) w:=by
 simp[getObj,Sem.run,h]
theorem bf{o:Obj}{c:Nat}(h:w.heap[b]? =some (.map ms c)):(setObj b o).run P w= .ok () (w.setB b o):=by
 simp[setObj,Sem.run,h,World.setB]
theorem ma(hr:B9 G w){id:Nat}{es:z6}(hb:G.H[id]? =some (.m es))(hv:RV G (.mp id) v):
  ∃b N ms clock,G.ρ id=some (b,N)/\v= .map (some b)/\w.heap[b]? =some (.map ms clock)/\ms.size=es.length/\
   (∀(k:Nat)(q:D×AV),es[k]? =some q->∃e:MapEntry,ms[k]? =some e/\RD G.m q.1 e.key/\RV G q.2 e.val):=by
 simp only[RV]at hv;obtain⟨_,blk,h1,h2⟩:=hv;rw[hb]at h1;cases h1;obtain⟨b,n,h3,h4⟩:=h2;obtain⟨b',N,ms,clock,k1,k2,k3,k4⟩:=hr.blk id _ hb;rw[h3]at k1;cases k1;exact⟨b,_,ms,clock,h3,h4,k2,k3,k4⟩
variable {x y:AV}
theorem fW(hE:CV P E)(hr:B9 G w){k:AV}{ok:Bool}(h:W3 E G.H t x k ok=some (c,y))(hc:c=true){u:Value}(hx:RV G x v)(hk:RV G k u):
  ∃z,(Instr.lookup t v u ok).run P w= .ok z w/\RV G y z:=by
 subst hc;unfold W3 at h;split at h
 .rename_i id k';split at h
  .rename_i es yt hb hyt;split at h
   .rename_i kt et hyk;split at h
    .rename_i yk ye hkt het;obtain⟨d,hu,hd⟩:=Dx (hE t yt hyt);rw[hyk]at hd;have hd:=mJ hd;subst hd;obtain⟨b,N,ms,clock,e1,e2,e3,e4,e5⟩:=ma hr hb hx;subst e2;simp only[RV]at hk
     have base:∀{f:Option (Nat×Value)}{kk:IntKind},P.underlying kt=some (.int kk)->Instr.findNow (.int kk) u ms.toList 0=some f->
       (Instr.lookup t (.map (some b)) u ok).run P w=(match f with
        |some (_,v)=>(pure (if ok then .tuple #[v,.bool true]else v):Sem Value)
        |none=>(do let z <-zeroValue et;pure (if ok then .tuple #[z,.bool false]else z))).run P w:=by
      intro f kk hku hf;unfold Instr.lookup;simp only[underlying,zf,run_program,zQ,hu,zk,Sf e3,Nr hku,Instr.findKey,hku,hf]
      cases f with
      |none=>simp only[zf,zk];cases hz:(zeroValue et).run P w<;>simp[Result.andThen,hz]
      |some q=>simp[zk,Result.andThen]
     split at h
     .rename_i v' hm;simp only[yh,zL]at h;obtain⟨hi,rfl⟩:=h;obtain⟨kk,hku⟩:=ud hE hkt hi;obtain⟨_,f2⟩:=K6 (kk:=kk) hk (ms:=ms.toList) 0 hm (by simpa using e4) (fun j q hq=>by simpa using e5 j q hq);obtain⟨j,v2,f3,f4⟩:=f2 _ rfl;refine⟨if ok then .tuple #[v2,.bool true]else v2,by rw[base hku f3];simp,?_⟩;cases ok
      .exact f4
      .simp only[RV,zx];exact⟨[v2,.bool true],rfl,by simp only[BP];exact⟨_,_,rfl,f4,_,_,rfl,by simp[RV,RD],rfl⟩⟩
     .rename_i hm;simp only[yh,zL]at h;obtain⟨hi,rfl⟩:=h;obtain⟨kk,hku⟩:=ud hE hkt hi;obtain⟨f1,_⟩:=K6 (kk:=kk) hk (ms:=ms.toList) 0 hm (by simpa using e4) (fun j q hq=>by simpa using e5 j q hq);obtain⟨zv,hzr,hzc⟩:=FF (hE et ye het) w;refine⟨if ok then .tuple #[zv,.bool false]else zv,by rw[base hku (f1 rfl)];simp[zf,hzr,Result.andThen],?_⟩;cases ok
      .simp[RV]
      .simp only[RV,zx];exact⟨[zv,.bool false],rfl,by simp only[BP];exact⟨_,_,rfl,by simp[RV],_,_,rfl,by simp[RV,RD],rfl⟩⟩
     .cases h
    .cases h
   .cases h
  .cases h
 .cases h
def kx(E:Nat->Option Bd)(H:yz)(t:Nat)(x k v:AV):Option (Bool×yz):=
 match x,k with
 | .mp id,.d k=>match H[id]?,E t with
  |some (.m es),some y=>match y.k with
   | .mp kt _=>match E kt with
    |some yk=>match QO k es,setH id (.m (es++[(k,v)])) H with
     |some none,some H'=>some (PY yk.k,H')
     |_,_=>none
    |none=>none
   |_=>none
  |_,_=>none
 |_,_=>none
theorem Xv(hE:CV P E)(hr:B9 G w){k v:AV}{H':yz}(h:kx E G.H t x k v=some (c,H'))(hc:c=true){xv kv vv:Value}(hx:RV G x xv)(hk:RV G k kv)(hv:RV G v vv):
  ∃w' G',(Instr.mapUpdate t xv kv vv).run P w= .ok () w'/\G'.H=H'/\B9 G' w'/\D4 G w G' w':=by
 subst hc;unfold kx at h;split at h
 .rename_i id k';split at h
  .rename_i es yt hb hyt;split at h
   .rename_i kt et hyk;split at h
    .rename_i yk hkt;split at h
     .rename_i H2 hm hset;simp only[yh,zL]at h;obtain⟨hi,rfl⟩:=h;obtain⟨d,hu,hd⟩:=Dx (hE t yt hyt);rw[hyk]at hd;have hd:=mJ hd;subst hd;obtain⟨b,N,ms,clock,e1,e2,e3,e4,e5⟩:=ma hr hb hx;subst e2;simp only[RV]at hk;obtain⟨kk,hku⟩:=ud hE hkt hi;obtain⟨f1,_⟩:=K6 (kk:=kk) hk (ms:=ms.toList) 0 hm (by simpa using e4) (fun j q hq=>by simpa using e5 j q hq);obtain⟨hid,rfl⟩:=J7 hset;have hs:Ap G (G.put id (.m (es++[(k',v)]))) id (.m es) (.m (es++[(k',v)])):=by simp[Ap,Gh.put]
      have hgl:=R5 hb hs;have hlt:=(zZ.1 e3).1
      obtain⟨h1,h2⟩:=eL (obj:=.map (ms.push {key:=kv,val:=vv,born:=clock}) (clock+1)) hr hb rfl rfl e1 hs
       ⟨b,N,_,_,e1,VT _ _ _ hlt,by simp[e4],fun j q hq=>by
        rcases q0A j es.length with hj|hj
        .rw[zW hj]at hq;obtain⟨e,k1,k2,k3⟩:=e5 j q hq;exact⟨e,by rw[Array.getElem?_push_lt om];rw[<-k1];simp[show j<ms.size by omega],k2.mono hgl.mem,k3.mono hgl⟩
        .rw[zl hj]at hq
         obtain⟨rfl⟩:j=es.length:=by
          have:=(yZ.1 hq).1;simp at this;omega
         simp at hq;subst hq
         exact⟨{key:=kv,val:=vv,born:=clock},by rw[<-e4];simp,hk.mono hgl.mem,hv.mono hgl⟩⟩
      refine⟨_,_,?_,rfl,h1,h2⟩;unfold Instr.mapUpdate;simp only[underlying,zf,run_program,zQ,hu,zk,Sf e3,Nr hku,Instr.findKey,hku,f1 rfl];rw[bf e3]
     .cases h
    .cases h
   .cases h
  .cases h
 .cases h
mutual
def Kz:D->Option Value
 | .b x=>some (.bool x)
 | .i k n=>some (.int k n)
 | .agg cs=>match YK cs with
  |some l=>some (.agg l.toArray)
  |none=>none
 |_=>none
def YK:yo->Option (y6)
 |[]=>some []
 |d::r=>match Kz d,YK r with
  |some v,some l=>some (v::l)
  |_,_=>none
end
mutual
theorem WU{m:Mem}:∀{d:D}{u v:Value},Kz d=some u->RD m d v->v=u
 | .b _,_,_,h,r| .i _ _,_,_,h,r=>by simp only[Kz]at h;cases h;simpa only[RD]using r
 | .agg cs,u,v,h,r=>by
  simp only[Kz]at h;split at h
  .rename_i l hl;cases h;simp only[RD]at r;obtain⟨vs,rfl,hvs⟩:=r;rw[YL hl hvs]
  .cases h
 | .s _,_,_,h,_=>by simp[Kz]at h
 | .f _ _,_,_,h,_=>by simp[Kz]at h
 | .tup _,_,_,h,_=>by simp[Kz]at h
 | .by _,_,_,h,_=>by simp[Kz]at h
 | .is _,_,_,h,_=>by simp[Kz]at h
 | .sl _ _,_,_,h,_=>by simp[Kz]at h
 | .np,_,_,h,_=>by simp[Kz]at h
 | .nf,_,_,h,_=>by simp[Kz]at h
 | .ni,_,_,h,_=>by simp[Kz]at h
 | .nm,_,_,h,_=>by simp[Kz]at h
 | .ifc _ _,_,_,h,_=>by simp[Kz]at h
 | .raw _,_,_,h,_=>by simp[Kz]at h
theorem YL{m:Mem}:∀{ds:yo}{us vs:y6},YK ds=some us->Eb m ds vs->vs=us
 |[],us,vs,h,r=>by simp only[YK]at h;cases h;simpa only[Eb]using r
 |d::ds,us,vs,h,r=>by
  simp only[YK]at h;split at h
  .rename_i v l h1 h2;cases h;simp only[Eb]at r;obtain⟨a,b,rfl,r1,r2⟩:=r;rw[WU h1 r1,YL h2 r2]
  .cases h
end
def YI:yq->Option (y6)
 |[]=>some []
 | .d x::r=>match Kz x,YI r with
  |some v,some l=>some (v::l)
  |_,_=>none
 |_=>none
theorem YJ{G:Gh}:∀{xs:yq}{us vs:y6},YI xs=some us->BP G xs vs->vs=us
 |[],us,vs,h,r=>by simp only[YI]at h;cases h;simpa only[BP]using r
 |x::xs,us,vs,h,r=>by
  unfold YI at h;split at h
  .cases ‹_::_=[]›
  .rename_i x' r' heq;cases heq;split at h
   .rename_i v l h1 h2;cases h;simp only[BP]at r;obtain⟨a,b,rfl,r1,r2⟩:=r;simp only[RV]at r1;rw[WU h1 r1,YJ h2 r2]
   .cases h
  .cases h
def uh:AV->Option Value
 | .d x=>Kz x
 | .ag xs=>match YI xs with
  |some l=>some (.agg l.toArray)
  |none=>none
 |_=>none
theorem rB{u:Value}(h:uh x=some u)(r:RV G x v):v=u:=by
 unfold uh at h;split at h
 .simp only[RV]at r;exact WU h r
 .split at h
  .rename_i l hl;cases h;simp only[RV]at r;obtain⟨vs,rfl,hvs⟩:=r;rw[YJ hl hvs]
  .cases h
 .cases h
def db:K->Bool
 | .ifc=>true
 | .other=>true
 |_=>false
def ku(E:Nat->Option Bd)(t:Nat)(x:AV):yy:=
 match E t,uh x with
 |some y,some v=>some (!db y.k,.d (.ifc t v))
 |_,_=>none
theorem kw(hE:CV P E)(h:ku E t x=some (c,y))(hc:c=true)(hx:RV G x v):
  ∃z,(Instr.makeInterface t v).run P w= .ok z w/\RV G y z:=by
 unfold ku at h;split at h
 .rename_i yt u hyt hl;simp only[yh,zL]at h;obtain⟨rfl,rfl⟩:=h;obtain⟨d,hu,hd⟩:=Dx (hE t yt hyt);have:=rB hl hx;subst this;refine⟨.iface t v,?_,by simp[RV,RD]⟩;unfold Instr.makeInterface;simp only[underlying,zf,run_program,zQ,hu,zk]
  cases d<;>first
   |rfl
   |(rw[<-hd]at hc;simp[P3,db]at hc;done)
   |simp[zk]
 .cases h
def SK(E:Nat->Option Bd)(x:AV)(asserted:Nat)(ok:Bool):yy:=
 match x,E asserted with
 | .d (.ifc t v),some y=>match Nat.beq t asserted,xy v with
  |true,some z=>some (!db y.k,if ok then .tup [z,.d (.b true)]else z)
  |_,_=>none
 |_,_=>none
theorem Xu(hE:CV P E){xt asserted:Nat}{ok:Bool}(h:SK E x asserted ok=some (c,y))(hc:c=true)(hx:RV G x v):
  ∃z,(Instr.typeAssert v xt asserted ok).run P w= .ok z w/\RV G y z:=by
 unfold SK at h;split at h
 .rename_i t u yt hyt;split at h
  .rename_i z hb hz;simp only[yh,zL]at h;obtain⟨rfl,rfl⟩:=h;have ht:=zH hb;subst ht;obtain⟨d,hu,hd⟩:=Dx (hE t yt hyt);simp only[RV,RD]at hx;subst hx;have hrz:RV G z u:=mq hz;refine⟨if ok then .tuple #[u,.bool true]else u,?_,?_⟩
   .unfold Instr.typeAssert;simp only[underlying,zf,run_program,zQ,hu,zk]
    cases d<;>first
     |(rw[<-hd]at hc;simp[P3,db]at hc;done)
     |simp[zk]
   .cases ok
    .exact hrz
    .simp only[RV,zx];exact⟨[u,.bool true],rfl,by simp only[BP];exact⟨_,_,rfl,hrz,_,_,rfl,by simp[RV,RD],rfl⟩⟩
  .cases h
 .cases h
end Go.Gar
