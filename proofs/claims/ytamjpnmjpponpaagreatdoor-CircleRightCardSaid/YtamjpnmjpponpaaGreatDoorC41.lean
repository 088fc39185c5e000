/- Part 41 of a proof. Conditions: those that its theorems state. -/
import Derived.Test.YtamjpnmjpponpaaGreatDoorC38
import Derived.Lib.AppendZerosOnto
import Derived.Shelf.Spec.SlicesInsert
set_option linter.unusedSimpArgs false
set_option linter.unusedVariables false
set_option linter.unnecessarySimpa false
set_option maxHeartbeats 40000000
set_option maxRecDepth 4000
namespace Go.Proofs.YtamjpnmjpponpaaGreatDoor
open Go.Gar Go.Shelf Go.Sort Go.RowKit Go.Lib
set_option maxRecDepth 100000
theorem y8:Tryz.prog.underlying 26=some (.slice 58):=by
 obtain⟨i,d,z,h1,h2,h3,h4,_⟩:=CR (AE 26 _ rfl);rw[h2];exact congrArg some (ET h4.symm)
theorem yN:∃i,Tryz.prog.info? 58=some i/\i.size=76/\∃z,i.zero=some z/\z.cells.size=76/\(∀v∈z.cells.toList,v.oneCell'=true)/\∀w,(zeroValue 58).run Tryz.prog w= .ok z w:=by
 obtain⟨i,d,z,h1,h2,h3,h4,h5,_,_,h6⟩:=CR (AE 58 _ rfl);refine⟨i,h1,h5.symm,z,h3,?_,?_,fun w=>by simp[zeroValue,typeInfo,h1,h3]⟩
 .rw[<-q0x,<-h6];rfl
 .rw[<-h6];have:∀l:ya,l.all Value.oneCell'=true->∀v∈l,v.oneCell'=true:=fun l h=>q0T.1 h
  exact this _ rfl
theorem xR(b cap i j n:Nat)(hj:j=i+1)(ws:yi)(T:TypeId)(w:World)(hw:w.heap[b]? =some (.cells ws T (0,0)))(hs:ws.size=cap*76)(hn:n<=cap)(hm:cap<=9223372036854775807)(hi:i<n)(h1:∀k v,k<n*76->ws[k]? =some v->v.oneCell'=true):
  Calls Tryz.prog 122 #[.slice (some ⟨b,0,none⟩) n cap,.int .i64 i,.int .i64 j] w fun e w'=>e= .returned (.slice (some ⟨b,0,none⟩) (n-1) cap)/\
   ∃us,Cb w b w' us T/\us.size=cap*76/\∀k,k<(n-1)*76->us[k]? =ws[if k<i*76 then k else k+76]?:=by
 have mixed:Tryz.prog.follows .mixedOrders=true:=by kernel_rfl
 obtain⟨i0,hi0,hz1,z,_,hzs,hzo,v58⟩:=yN;have t26:=y8;have R0:=Cb.refl hw;obtain⟨news,hnews⟩:∃news,news=(ws.toList.drop ((i+1)*76)).take ((n-(i+1))*76):=⟨_,rfl⟩;have hcn:n*76<=cap*76:=q0l 76 hn;have hlen:news.length=(n-(i+1))*76:=by rw[hnews,q0D,q1H,q0x,hs];omega
 have hget:∀k,k<(n-(i+1))*76->news[k]? =ws[(i+1)*76+k]?:=fun k hk=>by
  rw[hnews,q0Y,zn hk,q0i,q1M]
 have s1:Hid (news.length=(n-(i+1))*76):=hlen
 have s2:Hid (∀u∈news,u.oneCell'=true):=by
  intro u hu;obtain⟨k,hk⟩:=q0w.1 hu;have hkl:=(zS.1 hk).1;rw[hlen]at hkl;rw[hget k hkl]at hk;exact h1 _ _ om hk
 have s3:Hid (∀t,t<news.length->(w.drew.cell? ⟨b,0+i*76+t,none⟩).isSome=true/\w.drew.frozen? ⟨b,0+i*76+t,none⟩=false):=by
  intro t ht;rw[hlen]at ht;exact⟨by rw[R0.drew.cell];rw[q0g om];rfl,R0.drew.frozen _⟩
 obtain⟨A,hA,hsrc⟩:∃A:Addr,(if cap=j then some (⟨b,0,none⟩:Addr)else some ⟨b,j*76,none⟩)=some A/\Hid (∀t u,news[t]? =some u->w.drew.cell? (A.add t)=some u):=by
  subst hj
  by_cases h:cap=i+1
  .refine⟨⟨b,0,none⟩,by simp[h],fun t u hu=> ?_⟩;have:=(zS.1 hu).1;omega
  .refine⟨⟨b,(i+1)*76,none⟩,by simp[h],fun t u hu=> ?_⟩;have ht:=(zS.1 hu).1;rw[hget t om]at hu;rw[Addr.add_lit,R0.drew.cell];exact hu
 obtain⟨us,R1,hus,hug⟩:=Cb.set news (0+i*76) R0.drew (by rw[hlen];omega);obtain⟨W1,hW1⟩:∃W1,W1=w.drew.setCells b (0+i*76) news:=⟨_,rfl⟩;rw[<-hW1]at R1;obtain⟨zs,hzs'⟩:∃zs,(Builtin.zeroCells z.cells 1).toList=zs:=⟨_,rfl⟩;have hzl:zs.length=76:=by rw[<-hzs',q0x,size_zeroCells,hzs]
 have hcl:∀ty c,(Builtin.clear_ #[26] ty #[.slice (some ⟨b,(n-1)*76,none⟩) 1 c]).run Tryz.prog W1= .ok (.tuple #[]) (W1.setCells b ((n-1)*76) zs):=fun ty c=>
  YR W1 _ _ ty z zs t26 (v58 _) b _ 1 c (Nat.succ_pos 0) hzs' (fun j hj=>by rw[R1.cell,q0g om];rfl) (fun j _=>R1.frozen _) (fun v hv=>hzo v (by rw[<-hzs']at hv;exact Tl hv))
 obtain⟨us2,R2,hus2,hug2⟩:=Cb.set zs ((n-1)*76) R1 om;have hW:Hid (W1=w.drew.setCells b (0+i*76) news):=hW1
 have key:Hid (∀k,k<(n-1)*76->us2[k]? =ws[if k<i*76 then k else k+76]?):=by
  intro k hk;rw[hug2 k,zx om,hug k,hlen]
  by_cases e:k<i*76
  .rw[zx om,zn e]
  .rw[zn om,zx e,hget _ om]
   congr 1;omega
 have hu2:Hid (us2.size=cap*76):=by show us2.size=_;rw[hus2,hus,hs]
 have hic:i<=cap:=om
 have hjc:j<=cap:=om
 have heq:¬i=j:=om
 have hlt:i<j:=om
 have hjn:j<=n:=om
 have s1':Hid (news.length=(n-j)*76):=by subst hj;exact s1
 have hsn:n-1=i+(n-j):=om
 have hfin:Hid (n-1=i+(n-j)):=hsn
 have hcl':∀ty c,(Builtin.clear_ #[26] ty #[.slice (some ⟨b,(i+(n-j))*76,none⟩) (n-(i+(n-j))) c]).run Tryz.prog W1= .ok (.tuple #[]) (W1.setCells b ((i+(n-j))*76) zs):=fun ty c=>by
  rw[show n-(i+(n-j))=1 by omega,<-hsn];exact hcl ty c
 have R2':Hid (Cb w b (W1.setCells b ((n-1)*76) zs) us2 T):=R2;clear hW1 R0 hget hnews hlen h1 hug hug2 hus hus2 hs hcn hw hj s1 R1 R2 hsn hcl
 go_enter Tryz.func122,Tryz.ntmps122
 go_wp2_with fail
 go_region_law_o (refine step_append_room rfl (.tmp 22) (.tmp 25) 26 rfl 58 i0 76 t26 hi0 hz1 b 0 i cap (by simp[Act.eval,Act.put]) A (n-j) (cap-j) news (by simp[Act.eval,Act.put]) s1'.out hsrc.out s2.out om s3.out ?_;rw[<-hW.out])
 go_wp2
 go_ret
 refine⟨by rw[hfin.out];rfl,us2,?_,hu2.out,key.out⟩;have:=R2'.out;rw[hfin.out]at this;exact this
theorem S7{sz:Nat}:∀{es:List (yp)}{i:Nat},i<es.length->(∀e∈es,e.length=sz)->∀k,(es.eraseIdx i).flatten[k]? =es.flatten[if k<i*sz then k else k+sz]?
 |[],i,h,_,k=>by simp at h
 |e::r,0,_,h,k=>by
  have he:=h e (q0J ..);rw[List.eraseIdx_cons_zero,zx om,q0M,q05 om,he,Nat.add_sub_cancel]
 |e::r,i+1,hi,h,k=>by
  have he:=h e (q0J ..);have hm:(i+1)*sz=i*sz+sz:=Nat.succ_mul i sz;rw[List.eraseIdx_cons_succ,q0M,q0M];rcases q0C k sz with hk|hk
  .rw[zn om,zy om,zy om]
  .rw[q05 om,he,S7 (by simpa using hi) (fun e he=>h e (q0P _ he))]
   by_cases hq:k-sz<i*sz
   .rw[zn hq,zn om,q05 om,he]
   .rw[zx hq,zx om,q05 om,he]
    congr 1;omega
theorem XJ{sz:Nat}{x:yp}(hx:x.length=sz):∀{es:List (yp)}{i:Nat},i<=es.length->(∀e∈es,e.length=sz)->∀k,(es.take i++x::es.drop i).flatten[k]? =if k<i*sz then es.flatten[k]? else if k<i*sz+sz then x[k-i*sz]? else es.flatten[k-sz]?
 |es,0,_,h,k=>by
  rw[zx om,List.take_zero,List.drop_zero,zZ,q0M,Nat.zero_mul,q0Q,Nat.sub_zero];rcases q0C k sz with hk|hk
  .rw[zn hk,zy om]
  .rw[zx om,q05 om,hx]
 |[],i+1,hi,_,k=>by simp at hi
 |e::r,i+1,hi,h,k=>by
  have he:=h e (q0J ..);have hm:(i+1)*sz=i*sz+sz:=Nat.succ_mul i sz;rw[List.take_succ_cons,List.drop_succ_cons,zY,q0M,q0M];rcases q0C k sz with hk|hk
  .rw[zn om,zy om,zy om]
  .rw[q05 om,he,XJ hx (by simpa using hi) (fun e he=>h e (q0P _ he))]
   by_cases h1:k-sz<i*sz
   .rw[zn h1,zn (show k<(i+1)*sz by omega),q05 om,he]
   .rw[zx h1,zx (show ¬k<(i+1)*sz by omega)]
    by_cases h2:k-sz<i*sz+sz
    .rw[zn h2,zn (show k<(i+1)*sz+sz by omega)]
     congr 1;omega
    .rw[zx h2,zx (show ¬k<(i+1)*sz+sz by omega),q05 om,he]
theorem PL{α β:Type}(f:α->β):∀(l:List α)(i:Nat),(l.eraseIdx i).map f=(l.map f).eraseIdx i
 |[],_=>rfl
 |_::_,0=>rfl
 |a::r,i+1=>by simp only[List.eraseIdx_cons_succ,List.map_cons,PL f r i]
theorem Fx(l:List Nd.AA):∀e∈l.map Nd.AA.A4,e.length=76:=fun e he=>by
 obtain⟨n,_,rfl⟩:=q1L.1 he;rfl
theorem kw(l:List Nd.AA)(i:Nat)(hi:i<l.length):yT 122 [.sl 0 l.length 76,.yO i,.yO ((i:Int)+1)] [.a (Nd.Ak l)] (.sl 1 (l.length-1) 76) [.gone,.a (Nd.Ak (l.eraseIdx i))]:=by
 have h:=WQ (P:=Tryz.prog) (f:=122) ⟨_,Tryz.func122,rfl,rfl⟩ (args:=[.yO i,.yO ((i:Int)+1)]) (R:=[]) (pl:=[]) (sz:=76) (es:=l.map Nd.AA.A4) (ys:=(l.eraseIdx i).map Nd.AA.A4)
  (.inl rfl) (Fx _) (by rw[q08];omega) ?_
 .rw[q08,q08,List.length_eraseIdx_of_lt hi]at h;exact h
 intro G w vs us b cap ws T hR hG hus hvs hρ hw hs hle hcm hcell;rw[q08]at *;simp only[Bf,RV,RD]at hus;obtain⟨_,_,rfl,rfl,_,_,rfl,rfl,rfl⟩:=hus;subst hvs;have hm:cap<=9223372036854775807:=by unfold maxLen at hcm;omega
 have hfl:(l.map Nd.AA.A4).flatten.length=l.length*76:=by rw[JG (Fx l),q08]
 refine(xR b cap i (i+1) l.length rfl ws T w hw hs hle hm hi (fun k v hk hv=> ?_)).mono ?_
 .obtain⟨d,hd⟩:∃d,(l.map Nd.AA.A4).flatten[k]? =some d:=⟨_,zV om⟩;obtain⟨v',h1,h2,_⟩:=hcell k d hd;rw[hv]at h1;cases h1;exact h2
 rintro e w' ⟨rfl,us,hr,hu,hk⟩;refine⟨b,cap,us,T,by rw[List.length_eraseIdx_of_lt hi],hr.redo,hu,?_,hcm,fun k d hd=> ?_⟩
 .rw[List.length_eraseIdx_of_lt hi];omega
 .have hkl:=(zS.1 hd).1;rw[JG (Fx _),q08,List.length_eraseIdx_of_lt hi]at hkl;rw[PL,S7 (by rw[q08];exact hi) (Fx l)]at hd;rw[hk k hkl];exact hcell _ d hd
def Nn(i:Nat)(ws xs cur:yi)(n:Nat):Prop:=∀k,k<(n+1)*76->cur[k]? =if k<i*76 then ws[k]? else if k<i*76+76 then xs[k-i*76]? else ws[k-76]?
variable {w:World}{b:Nat}{ws:yi}{T:TypeId}
theorem Gn(R:Cb w b w ws T)(o n:Nat)(h:o+n<=ws.size):∃l:ya,l.length=n/\(∀k,k<n->l[k]? =ws[o+k]?)/\∀v∈l,∃k,k<n/\ws[o+k]? =some v:=by
 refine⟨(ws.toList.drop o).take n,by rw[q0D,q1H,q0x];omega,fun k hk=>by rw[q0Y,zn hk,q0i,q1M],fun v hv=> ?_⟩;obtain⟨k,hk⟩:=q0w.1 hv;have hkl:=(zS.1 hk).1;rw[q0D]at hkl;rw[q0Y,zn om,q0i,q1M]at hk;exact⟨k,om,hk⟩
structure jN (b cap n vb vc:Nat) (ws xs:yi) (T T':TypeId) (w:World):Prop where
 hw:w.heap[b]? =some (.cells ws T (0,0))
 hs:ws.size=cap*76
 hn:n<=cap
 hm:cap<=maxLen
 hv:w.heap[vb]? =some (.cells xs T' (0,0))
 hx:xs.size=vc*76
 hvc:1<=vc
 h1:∀k v,k<n*76->ws[k]? =some v->v.oneCell'=true
 h2:∀k v,k<76->xs[k]? =some v->v.oneCell'=true
 hbig:n<=1000
variable {cap n vb vc:Nat}{xs:yi}{T':TypeId}
theorem xZ(h:jN b cap n vb vc ws xs T T' w)(hr:n+1<=cap):Calls Tryz.prog 124 #[.slice (some ⟨b,0,none⟩) n cap,.int .i64 n,.slice (some ⟨vb,0,none⟩) 1 vc] w fun e w'=>
  ∃nb cap' cur T'',e= .returned (.slice (some ⟨nb,0,none⟩) (n+1) cap')/\Redo w b w' nb cur T''/\cur.size=cap'*76/\n+1<=cap'/\cap'<=maxLen/\Nn n ws xs cur n:=by
 obtain⟨hw,hs,hn,hm,hv,hx,hvc,h1,h2,hbig⟩:=h;have mixed:Tryz.prog.follows .mixedOrders=true:=by kernel_rfl
 have hm':cap<=9223372036854775807:=by unfold maxLen at hm;omega
 obtain⟨i0,hi0,hz1,_⟩:=yN;have t26:=y8;have R0:=Cb.refl hw;have Rv:=Cb.refl hv;obtain⟨news,hl,hg,hmem⟩:=Gn Rv 0 76 om;have hroom:n*76+76<=cap*76:=by have:=q0l 76 hr;omega
 have hrun:=fun ty=>run_append_room_cells (P:=Tryz.prog) w _ ty _ i0 t26 hi0 b 0 n cap ⟨vb,0,none⟩ 1 vc news (by rw[hz1,hl]) (fun j u hj=>by
   have:=(zS.1 hj).1;rw[hg j om]at hj
   rw[Addr.add_lit,Rv.cell];exact hj) (fun u hu=>by obtain⟨k,hk,e⟩:=hmem u hu;exact h2 _ _ om e) hr
  (fun j hj=>by rw[R0.cell,hz1,q0g om];rfl) (fun j _=>R0.frozen _)
 rw[hz1]at hrun;obtain⟨us,R1,hus,hug⟩:=Cb.set news (0+n*76) R0 om
 have fin:Hid (Redo w b (w.setCells b (0+n*76) news) b us T/\us.size=cap*76/\Nn n ws xs us n):=by
  refine⟨R1.redo,by rw[hus,hs],fun k hk=> ?_⟩;rw[hug k,hl]
  by_cases e:k<n*76
  .rw[zx om,zn e]
  .rw[zn om,zx e,zn om,hg _ om]
   congr 1;omega
 clear R0 Rv hw hs hv hx h1 h2 hl hg hmem R1 hus hug hi0 hz1
 go_enter Tryz.func124,Tryz.ntmps124
 go_wp2_with (at_builtin;refine Lib.wpList_append_run _ rfl _ _ _ _ rfl _ _ rfl rfl _ _ (hrun _) ?_)
 go_ret
 obtain⟨f1,f2,f3⟩:=fin.out;rw[q0Q]at f1;exact⟨b,cap,us,T,rfl,f1,f2,hr,hm,f3⟩
theorem xa(h:jN b cap n vb vc ws xs T T' w)(hr:cap<n+1):Calls Tryz.prog 124 #[.slice (some ⟨b,0,none⟩) n cap,.int .i64 n,.slice (some ⟨vb,0,none⟩) 1 vc] w fun e w'=>
  ∃nb cap' cur T'',e= .returned (.slice (some ⟨nb,0,none⟩) (n+1) cap')/\Redo w b w' nb cur T''/\cur.size=cap'*76/\n+1<=cap'/\cap'<=maxLen/\Nn n ws xs cur n:=by
 obtain⟨hw,hs,hn,hm,hv,hx,hvc,h1,h2,hbig⟩:=h;have mixed:Tryz.prog.follows .mixedOrders=true:=by kernel_rfl
 have hm':cap<=9223372036854775807:=by unfold maxLen at hm;omega
 have t26:=y8;have R0:=Cb.refl hw;have Rv:=Cb.refl hv;have hcn:n*76<=cap*76:=q0l 76 hn;obtain⟨olds,ol,og,_⟩:=Gn R0 0 (n*76) om;obtain⟨news,hl,hg,hmem⟩:=Gn Rv 0 76 om;obtain⟨G,hG⟩:∃G,G=grownCap w (n+1) cap 58:=⟨_,rfl⟩;have hGn:n+1<=G:=by rw[hG];exact grownCap_ge w _ _ _
 have hGm:G<=maxLen:=by rw[hG];exact grownCap_le_maxLen w _ _ _ (by unfold maxLen;omega)
 have hrun:∀ty,∃zs:yi,zs.size=(G-(n+1))*76/\(Builtin.append_ #[26,26] ty #[.slice (some ⟨b,0,none⟩) n cap,.slice (some ⟨vb,0,none⟩) 1 vc]).run Tryz.prog w=
   .ok (.slice (some ⟨w.heap.size,0,none⟩) (n+1) G) (w.drew.alloc (.cells (olds.toArray++news.toArray++zs) 58)):=fun ty=>by
  rw[hG]
  exact GQ (P:=Tryz.prog) (w:=w) (ty:=ty) (base:=some ⟨b,0,none⟩) (sLen:=n) (sCap:=cap) (n:=1) (news:=news) (olds:=olds) t26 (AE 58 _ rfl) (.inl ⟨_,t26⟩) (fun w'=>rfl)
   (fun w' hw'=>run_firstCells_some w' 76 1 ⟨vb,0,none⟩ 1 vc news (by rw[hl]) (fun j u hj=>by
    have:=(zS.1 hj).1;rw[hg j om]at hj
    rw[Addr.add_lit,World.cell?_of_block (w:=w) (by rw[hw']),Rv.cell];exact hj))
   (fun w' hw'=>run_firstCells_some w' 76 n ⟨b,0,none⟩ n cap olds (by rw[ol]) (fun j u hj=>by
    have:=(zS.1 hj).1;rw[og j om]at hj
    rw[Addr.add_lit,World.cell?_of_block (w:=w) (by rw[hw']),R0.cell];exact hj))
   hr om (by show(n+1)*_<=_;exact q0L (q0l _ (show n+1<=1001 by omega)) yR)
 obtain⟨zs,hz,hrun⟩:=hrun 26
 have fin:Hid (Redo w b ((w.alloc (.cells (olds.toArray++news.toArray++zs) 58)).drew) w.heap.size (olds.toArray++news.toArray++zs) 58/\(olds.toArray++news.toArray++zs).size=G*76/\Nn n ws xs (olds.toArray++news.toArray++zs) n):=by
  have q:Redo w.drew b (w.drew.alloc (.cells (olds.toArray++news.toArray++zs) 58)) w.heap.size (olds.toArray++news.toArray++zs) 58:=Cb.new (w0:=w.drew) (Cb.refl (q1m _ _));refine⟨⟨q.os,q.tape,q.output,q.size,q.new,q.at_,q.oth⟩,by simp only[Array.size_append,q1l,ol,hl,hz];omega,fun k hk=> ?_⟩;rw[Array.append_assoc]
  by_cases e:k<n*76
  .rw[zn e,q19 (by simp only[q1l,ol];exact e),q1j,og k e,q0Q]
  .rw[zx e,zn om,Array.getElem?_append_right (by simp only[q1l,ol];omega),q19 (by simp only[q1l,ol,hl];omega),q1j,q1l,ol,hg _ om,q0Q]
 clear R0 Rv hw hs hv hx h1 h2 hl hg hmem ol og hz hcn hG;generalize olds.toArray++news.toArray++zs=ROW at*
 go_enter Tryz.func124,Tryz.ntmps124
 go_wp2_with (at_builtin;refine Lib.wpList_append_run _ rfl _ _ _ _ rfl _ _ rfl rfl _ _ hrun ?_)
 go_ret
 obtain⟨f1,f2,f3⟩:=fin.out;exact⟨w.heap.size,G,_,_,rfl,f1,f2,hGn,hGm,f3⟩
theorem xb(h:jN b cap n vb vc ws xs T T' w)(i:Nat)(hi:i<n)(hvb:vb≠b)(m:Nat)(hm1:m=1)(hr:n+1<=cap):Calls Tryz.prog 124 #[.slice (some ⟨b,0,none⟩) n cap,.int .i64 i,.slice (some ⟨vb,0,none⟩) m vc] w fun e w'=>
  ∃nb cap' cur T'',e= .returned (.slice (some ⟨nb,0,none⟩) (n+1) cap')/\Redo w b w' nb cur T''/\cur.size=cap'*76/\n+1<=cap'/\cap'<=maxLen/\Nn i ws xs cur n:=by
 obtain⟨hw,hs,hn,hm,hv,hx,hvc,h1,h2,hbig⟩:=h;have mixed:Tryz.prog.follows .mixedOrders=true:=by kernel_rfl
 have hm':cap<=9223372036854775807:=by unfold maxLen at hm;omega
 obtain⟨i0,hi0,hz1,_⟩:=yN;have hsz:(Tryz.prog.info? 58).map (·.size)=some 76:=by rw[hi0];simp[hz1]
 have hsz':∀W,(Go.sizeOf 58).run Tryz.prog W= .ok 76 W:=fun W=>by simp[Go.sizeOf,typeInfo,hi0,hz1]
 have t26:=y8;have R0:=Cb.refl hw;have Rv:=Cb.refl hv;have hcn:n*76+76<=cap*76:=by have:=q0l 76 hr;omega
 obtain⟨tail,tl,tg,tm⟩:=Gn R0 (i*76) ((n-i)*76) om;obtain⟨news,nl,ng,nm⟩:=Gn Rv 0 76 om;obtain⟨us,R1,hus,hug⟩:=Cb.set tail ((i+1)*76) R0.drew om;obtain⟨us2,R2,hus2,hug2⟩:=Cb.set news (i*76) R1 om
 have hov:∀lb cb,(callFunc 180 #[.slice (some ⟨vb,0,none⟩) m vc,.slice (some ⟨b,(i+m)*76,none⟩) lb cb]).run Tryz.prog w= .ok (.value (.bool false)) w:=fun lb cb=>by
  rw[run_callFunc_extern Tryz.func180 (by kernel_rfl) (by kernel_rfl) (by kernel_rfl) (e:=Extern.SlicesOverlaps.overlaps #[26,26] #[4]) (by kernel_rfl),
   Lib.run_overlaps_apart w 26 4 58 t26 76 hsz' ⟨vb,0,none⟩ ⟨b,(i+m)*76,none⟩ m vc lb cb hvb T' T xs.size ws.size (by simp[World.shape?,hv]) (by simp[World.shape?,hw]) om (Rv.frozen _) (Rv.frozen _)]
  rfl
 have hcp1:∀ty dc sc,(Builtin.copy_ #[26,26] ty #[.slice (some ⟨b,(i+m)*76,none⟩) (n+m-(i+m)) dc,.slice (some ⟨b,i*76,none⟩) (n+m-i) sc]).run Tryz.prog w.drew= .ok (goInt (Nat.min (n+m-i) (n+m-(i+m)))) (w.drew.setCells b ((i+1)*76) tail):=fun ty dc sc=>by
  subst hm1
  exact KA w.drew _ _ ty _ 76 b ((i+1)*76) _ dc ⟨b,i*76,none⟩ _ sc tail t26 hsz (by rw[tl];congr 1;simp only[Nat.min_def];split<;>omega)
   (fun j v hj=>by
    have:=(zS.1 hj).1;rw[tg j om]at hj
    rw[Addr.add_lit,R0.drew.cell];exact hj)
   (fun j hj=>by rw[R0.drew.cell,q0g om];rfl) (fun j _=>R0.drew.frozen _) (fun v hv=>by obtain⟨k,hk,e⟩:=tm v hv;exact h1 _ _ om e)
 obtain⟨W1,hW1⟩:∃W1,W1=w.drew.setCells b ((i+1)*76) tail:=⟨_,rfl⟩;rw[<-hW1]at hcp1 R1 R2
 have hcp2:∀ty dc,(Builtin.copy_ #[26,26] ty #[.slice (some ⟨b,i*76,none⟩) (n+m-i) dc,.slice (some ⟨vb,0,none⟩) m vc]).run Tryz.prog W1= .ok (goInt (Nat.min m (n+m-i))) (W1.setCells b (i*76) news):=fun ty dc=>by
  subst hm1
  exact KA W1 _ _ ty _ 76 b (i*76) _ dc ⟨vb,0,none⟩ 1 vc news t26 hsz (by rw[nl];show 76=Nat.min 1 (n+1-i)*76;simp only[Nat.min_def];split<;>omega)
   (fun j v hj=>by
    have:=(zS.1 hj).1;rw[ng j om]at hj
    rw[Addr.add_lit,World.cell?_of_block (w:=w) (R1.oth vb hvb),Rv.cell];exact hj)
   (fun j hj=>by rw[R1.cell,q0g om];rfl) (fun j _=>R1.frozen _) (fun v hv=>by obtain⟨k,hk,e⟩:=nm v hv;exact h2 _ _ om e)
 have fin:Hid (Redo w b (W1.setCells b (i*76) news) b us2 T/\us2.size=cap*76/\Nn i ws xs us2 n):=by
  refine⟨R2.redo,by rw[hus2,hus,hs],fun k hk=> ?_⟩;rw[hug2 k,hug k,nl,tl]
  by_cases e:k<i*76
  .rw[zx om,zx om,zn e]
  .rw[zx e]
   by_cases e2:k<i*76+76
   .rw[zn om,zn e2,ng _ om,q0Q]
   .rw[zx om,zn om,zx e2,tg _ om]
    congr 1;omega
 have hz1':¬((m:Int)=0):=om
 have hz2:¬((i:Int)=(n:Int)):=om
 have hw1:IntKind.i64.wrap ((i:Int)+(m:Int))=(i:Int)+(m:Int):=by rw[IntKind.wrap_i64];omega
 have hw2:IntKind.i64.wrap ((n:Int)+(m:Int))=(n:Int)+(m:Int):=by rw[IntKind.wrap_i64];omega
 have hz3:¬((cap:Int)<(n:Int)+(m:Int)):=om
 have hb1:(0:Int)<=(i:Int)+(m:Int):=om
 have hin:i<=n:=om
 have htn:((i:Int)+(m:Int)).toNat=i+m:=om
 have hb2:¬(cap=i+m):=om
 have hb3:(i:Int)<=(n:Int)+(m:Int):=om
 have hb4:¬(cap=i):=om
 have hroom:n+m<=cap:=om
 have hnm:Hid (n+m=n+1):=by show _=_;omega
 clear R0 Rv hw hs hv hx h1 h2 tl tg tm nl ng nm R1 R2 hus hus2 hug hug2 hW1 hi0 hz1 hm1 hcn
 go_enter Tryz.func124,Tryz.ntmps124
 go_wp2_with (simp only[hov])
 go_region_law_o (refine step_copy_runI rfl _ _ 26 26 rfl _ _ (by simp[Act.eval,Act.put]) (by simp[Act.eval,Act.put]) (hcp1 _ _ _) ?_)
 go_wp2_with (at_builtin;refine wpList_copy_runI _ rfl _ _ 26 26 rfl _ _ rfl rfl (hcp2 _ _) ?_)
 go_ret
 obtain⟨f1,f2,f3⟩:=fin.out;exact⟨b,cap,us2,T,by rw[hnm.out];rfl,f1,f2,om,hm,f3⟩
theorem xc(h:jN b cap n vb vc ws xs T T' w)(i:Nat)(hi:i<n)(hvb:vb≠b)(m:Nat)(hm1:m=1)(hr:cap<n+1):Calls Tryz.prog 124 #[.slice (some ⟨b,0,none⟩) n cap,.int .i64 i,.slice (some ⟨vb,0,none⟩) m vc] w fun e w'=>
  ∃nb cap' cur T'',e= .returned (.slice (some ⟨nb,0,none⟩) (n+1) cap')/\Redo w b w' nb cur T''/\cur.size=cap'*76/\n+1<=cap'/\cap'<=maxLen/\Nn i ws xs cur n:=by
 obtain⟨hw,hs,hn,hm,hv,hx,hvc,h1,h2,hbig⟩:=h;have mixed:Tryz.prog.follows .mixedOrders=true:=by kernel_rfl
 have hm':cap<=9223372036854775807:=by unfold maxLen at hm;omega
 obtain⟨i0,hi0,hz1,z,hz0,hzs,hzo,_⟩:=yN
 have hib:i0.bytes*1001<=140737488355328:=by
  obtain⟨i1,d,z1,e1,_,_,_,_,e5,_⟩:=CR (AE 58 _ rfl);rw[hi0]at e1;cases e1;rw[<-e5];exact yR
 have hsz:(Tryz.prog.info? 58).map (·.size)=some 76:=by rw[hi0];simp[hz1]
 have t26:=y8;have t3:Tryz.prog.underlying 3=some (.int .i64):=by kernel_rfl
 have R0:=Cb.refl hw;have Rv:=Cb.refl hv;have hcn:n*76<=cap*76:=q0l 76 hn;have hbw:b<w.heap.size:=(q03.1 hw).1;have hvw:vb<w.heap.size:=(q03.1 hv).1;obtain⟨olds,ol,og,_⟩:=Gn R0 0 (i*76) om;obtain⟨tail,tl,tg,tm⟩:=Gn R0 (i*76) ((n-i)*76) om;obtain⟨news,nl,ng,nm⟩:=Gn Rv 0 76 om;obtain⟨G,hG⟩:∃G,G=grownCap w (n+1) cap 58:=⟨_,rfl⟩;have hGn:n+1<=G:=by rw[hG];exact grownCap_ge w _ _ _
 have hGm:G<=maxLen:=by rw[hG];exact grownCap_le_maxLen w _ _ _ (by unfold maxLen;omega)
 obtain⟨ROW,hROW⟩:∃ROW:yi,ROW=olds.toArray++Builtin.zeroCells z.cells (n+1-i)++Builtin.zeroCells z.cells (G-(n+1)):=⟨_,rfl⟩;have hRs:ROW.size=G*76:=by rw[hROW];simp only[Array.size_append,q1l,size_zeroCells,hzs,ol];omega
 have hRg:∀k,k<i*76->ROW[k]? =ws[k]?:=fun k hk=>by
  rw[hROW,Array.append_assoc,q19 (by simp only[q1l,ol];exact hk),q1j,og k hk,q0Q]
 have hrz:∀ty,(Builtin.append_ #[26,3] ty #[.slice (some ⟨b,0,none⟩) i cap,.int .i64 ((n:Int)+(m:Int)-(i:Int))]).run Tryz.prog w= .ok (.slice (some ⟨w.heap.size,0,none⟩) (n+m) G) (w.drew.alloc (.cells ROW 58)):=fun ty=>by
  subst hm1
  have h:=Lib.run_append_grow_zeros (P:=Tryz.prog) w 26 3 ty 58 i0 z .i64 .i64 t26 t3 hi0 hz0 (some ⟨b,0,none⟩) i cap olds
   (by rw[hz1];exact run_firstCells_some w.drew 76 i ⟨b,0,none⟩ i cap olds (by rw[ol]) (fun j u hj=>by
    have:=(zS.1 hj).1;rw[og j om]at hj
    rw[Addr.add_lit,R0.drew.cell];exact hj)) (n+1-i) om om om om
   (q0L (q0l _ (show n+1-i<=1001 by omega)) om)
   (growslice_fits om (q0L (q0l _ (show i+(n+1-i)<=1001 by omega)) om))
  rw[show i+(n+1-i)=n+1 by omega,<-hG,<-hROW]at h;rw[show(n:Int)+((1:Nat):Int)-(i:Int)=((n+1-i:Nat):Int)by omega];exact h
 obtain⟨o,ho⟩:∃o:Obj,o= .cells ROW 58:=⟨_,rfl⟩;have Rn:Cb (w.alloc o) w.heap.size (w.alloc o) ROW 58:=by subst ho;exact Cb.refl (q1m _ _)
 obtain⟨us,R1,hus,hug⟩:=Cb.set news (i*76) Rn.drew (by rw[hRs,nl];omega);obtain⟨us2,R2,hus2,hug2⟩:=Cb.set tail ((i+1)*76) R1.drew (by rw[hus,hRs,tl];omega)
 have old:∀{c:Nat},c<w.heap.size->(w.alloc o).heap[c]? =w.heap[c]?:=fun{c} hc=>by
  show(w.heap.push o)[c]? =_;rw[Array.getElem?_push,zx om]
 have hcpA:∀ty dc,(Builtin.copy_ #[26,26] ty #[.slice (some ⟨w.heap.size,i*76,none⟩) (n+m-i) dc,.slice (some ⟨vb,0,none⟩) m vc]).run Tryz.prog (w.alloc o).drew= .ok (goInt (Nat.min m (n+m-i))) ((w.alloc o).drew.setCells w.heap.size (i*76) news):=fun ty dc=>by
  subst hm1
  exact KA (w.alloc o).drew _ _ ty _ 76 w.heap.size (i*76) _ dc ⟨vb,0,none⟩ 1 vc news t26 hsz (by rw[nl];show 76=Nat.min 1 (n+1-i)*76;simp only[Nat.min_def];split<;>omega)
   (fun j v hj=>by
    have:=(zS.1 hj).1;rw[ng j om]at hj
    rw[Addr.add_lit,World.cell?_of_block (w:=w) (show(w.alloc o).drew.heap[vb]? =w.heap[vb]? from old hvw),Rv.cell];exact hj)
   (fun j hj=>by rw[Rn.drew.cell,q0g om];rfl) (fun j _=>Rn.drew.frozen _) (fun v hv=>by obtain⟨k,hk,e⟩:=nm v hv;exact h2 _ _ om e)
 obtain⟨W1,hW1⟩:∃W1,W1=(w.alloc o).drew.setCells w.heap.size (i*76) news:=⟨_,rfl⟩;rw[<-hW1]at hcpA R1 R2
 have hcpB:∀ty dc sc,(Builtin.copy_ #[26,26] ty #[.slice (some ⟨w.heap.size,(i+m)*76,none⟩) (n+m-(i+m)) dc,.slice (some ⟨b,i*76,none⟩) (n-i) sc]).run Tryz.prog W1.drew= .ok (goInt (Nat.min (n-i) (n+m-(i+m)))) (W1.drew.setCells w.heap.size ((i+1)*76) tail):=fun ty dc sc=>by
  subst hm1
  exact KA W1.drew _ _ ty _ 76 w.heap.size ((i+1)*76) _ dc ⟨b,i*76,none⟩ _ sc tail t26 hsz (by rw[tl];congr 1;simp only[Nat.min_def];split<;>omega)
   (fun j v hj=>by
    have:=(zS.1 hj).1;rw[tg j om]at hj
    rw[Addr.add_lit,World.cell?_of_block (w:=w) ((R1.drew.oth b om).trans (old hbw)),R0.cell];exact hj)
   (fun j hj=>by rw[R1.drew.cell,q0g om];rfl) (fun j _=>R1.drew.frozen _) (fun v hv=>by obtain⟨k,hk,e⟩:=tm v hv;exact h1 _ _ om e)
 have fin:Hid (Redo w b (W1.drew.setCells w.heap.size ((i+1)*76) tail) w.heap.size us2 58/\us2.size=G*76/\Nn i ws xs us2 n):=by
  refine⟨R2.new,by rw[hus2,hus,hRs],fun k hk=> ?_⟩;rw[hug2 k,hug k,nl,tl]
  by_cases e:k<i*76
  .rw[zx om,zx om,zn e,hRg k e]
  .rw[zx e]
   by_cases e2:k<i*76+76
   .rw[zx om,zn om,zn e2,ng _ om,q0Q]
   .rw[zn om,zx e2,tg _ om]
    congr 1;omega
 rw[<-ho]at hrz;have hz1':¬((m:Int)=0):=om
 have hz2:¬((i:Int)=(n:Int)):=om
 have hw1:IntKind.i64.wrap ((i:Int)+(m:Int))=(i:Int)+(m:Int):=by rw[IntKind.wrap_i64];omega
 have hw2:IntKind.i64.wrap ((n:Int)+(m:Int))=(n:Int)+(m:Int):=by rw[IntKind.wrap_i64];omega
 have hz3:(cap:Int)<(n:Int)+(m:Int):=om
 have hb1:(0:Int)<=(i:Int)+(m:Int):=om
 have hin:i<=n:=om
 have htn:((i:Int)+(m:Int)).toNat=i+m:=om
 have hGi:¬(G=i):=om
 have hGim:¬(G=i+m):=om
 have hci:¬(cap=i):=om
 have hb3:(i:Int)<=(n:Int):=om
 have hGn':n+m<=G:=om
 have hG63:G<=9223372036854775807:=by unfold maxLen at hGm;omega
 have hnm:Hid (n+m=n+1):=by show _=_;omega
 clear R0 Rv Rn hw hs hv hx h1 h2 tl tg tm nl ng nm ol og R1 R2 hus hus2 hug hug2 hW1 hi0 hz1 hz0 hzs hzo hm1 hcn ho hROW hRs hRg hG hib old hbw hvw
 go_enter Tryz.func124,Tryz.ntmps124
 go_wp2_with (first
  |(at_builtin;refine Lib.wpList_append_run _ rfl _ _ _ _ rfl _ _ rfl rfl _ _ (hrz _) ?_)
  |(at_builtin;refine wpList_copy_runI _ rfl _ _ 26 26 rfl _ _ rfl rfl (hcpA _ _) ?_))
 go_region_law_o (refine step_copy_runI rfl _ _ 26 26 rfl _ _ (by simp[Act.eval,Act.put]) (by simp[Act.eval,Act.put]) (hcpB _ _ _) ?_)
 go_wp2
 go_ret
 obtain⟨f1,f2,f3⟩:=fin.out;exact⟨w.heap.size,G,us2,_,by rw[hnm.out];rfl,f1,f2,hGn,hGm,f3⟩
theorem mV(l:List Nd.AA)(x:Nd.AA)(i:Nat)(hi:i<=l.length)(h0:0<l.length)(hbig:l.length<=1000):yT 124 [.sl 0 l.length 76,.yO i,.sl 1 1 76] [.a (Nd.Ak l),.a (Nd.Ak [x]),.a (Nd.Ak [])] (.sl 2 (l.length+1) 76) [.gone,.a (Nd.Ak [x]),.a (Nd.Ak (l.take i++x::l.drop i))]:=by
 have hL:(l.take i++x::l.drop i).length=l.length+1:=by simp only[q04,q02,q0D,q1H];omega
 have h:=WQ (P:=Tryz.prog) (f:=124) ⟨_,Tryz.func124,rfl,rfl⟩ (args:=[.yO i,.sl 1 1 76]) (R:=[.a (Nd.Ak [x])]) (pl:=[.a (Nd.Ak [])]) (sz:=76) (es:=l.map Nd.AA.A4) (ys:=(l.take i++x::l.drop i).map Nd.AA.A4)
  (.inr ⟨rfl,by rw[q08,hL];exact Nat.succ_pos _⟩) (Fx _) (by rw[q08];exact h0) ?_
 .rw[q08,q08,hL]at h;exact h
 intro G w vs us b cap ws T hR hG hus hvs hρ hw hs hle hcm hcell;have hfl:(l.map Nd.AA.A4).flatten.length=l.length*76:=by rw[JG (Fx l),q08]
 simp only[Bf,RV,RD]at hus;obtain⟨_,_,rfl,rfl,v,_,rfl,⟨_,blk,hb,hp⟩,rfl⟩:=hus;have hb1:G.H[1]? =some (.a (Nd.Ak [x])):=by rw[hG];rfl
 have hb0:G.H[0]? =some (.a (Nd.Ak l)):=by rw[hG];rfl
 rw[hb1]at hb;cases hb;obtain⟨_,_,hp⟩:=hp;rcases hp rfl with⟨h00,_⟩|⟨vb,N,vc,hρ1,rfl,hvc,_,rfl⟩
 .cases h00
 obtain⟨_,_,hB⟩:=hR.blk 1 _ hb1;rcases hB with⟨_,hno⟩|⟨vb',N',xs,T',hρ',hv,hM,hxc⟩
 .rw[hρ1]at hno;cases hno
 rw[hρ1]at hρ';cases hρ'
 have hvb:vb≠b:=fun e=>by
  subst e;have:=hR.inj 1 0 _ _ _ _ _ hb1 hb0 rfl rfl hρ1 hρ;cases this
 subst hvs;rw[q08]at hle;rw[q08]
 have hx1:∀(k:Nat),k<76->∃d v,(slc (Nd.Ak [x]))[k]? =some d/\xs[k]? =some v/\v.oneCell'=true/\RD G.m d v:=fun k hk=>by
  have hl1:(slc (Nd.Ak [x])).length=76:=rfl;obtain⟨v,q⟩:=hxc k _ (zV om);exact⟨_,v,zV om,q⟩
 have hI:jN b cap l.length vb vc ws xs T T' w:=by
  refine⟨hw,hs,hle,hcm,hv,hM,hvc,fun k v hk hv=> ?_,fun k v hk hv=> ?_,hbig⟩
  .obtain⟨v',h1,h2,_⟩:=hcell k _ (zV om);rw[hv]at h1;cases h1;exact h2
  .obtain⟨d,v',_,h1,h2,_⟩:=hx1 k hk;rw[hv]at h1;cases h1;exact h2
 have key:Calls Tryz.prog 124 #[.slice (some ⟨b,0,none⟩) l.length cap,.int .i64 i,.slice (some ⟨vb,0,none⟩) 1 vc] w fun e w'=>
   ∃nb cap' cur T'',e= .returned (.slice (some ⟨nb,0,none⟩) (l.length+1) cap')/\Redo w b w' nb cur T''/\cur.size=cap'*76/\l.length+1<=cap'/\cap'<=maxLen/\Nn i ws xs cur l.length:=by
  rcases q0C cap (l.length+1)with hr|hr
  .rcases q0C i l.length with hil|hil
   .exact xc hI i hil hvb 1 rfl hr
   .obtain rfl:i=l.length:=om
    exact xa hI hr
  .rcases q0C i l.length with hil|hil
   .exact xb hI i hil hvb 1 rfl hr
   .obtain rfl:i=l.length:=om
    exact xZ hI hr
 refine key.mono ?_;rintro e w' ⟨nb,cap',cur,T'',rfl,hr,hcs,hyl,hcl,hin⟩;refine⟨nb,cap',cur,T'',by rw[q08,hL],hr,hcs,by rw[q08,hL];exact hyl,hcl,fun k d hd=> ?_⟩;have hkl:=(zS.1 hd).1;rw[JG (Fx _),q08,hL]at hkl;rw[q0f,List.map_cons,List.map_take,List.map_drop,XJ (sz:=76) (x:=x.A4) rfl (by rw[q08];exact hi) (Fx l)]at hd;rw[hin k hkl]
 by_cases e:k<i*76
 .rw[zn e]at hd|-;exact hcell k d hd
 rw[zx e]at hd|-
 by_cases e2:k<i*76+76
 .rw[zn e2]at hd|-;refine hxc _ d ?_;simp only[slc,List.map_cons,List.map_nil,q0M,List.flatten_nil,q1U];exact hd
 .rw[zx e2]at hd|-;exact hcell _ d hd
end Go.Proofs.YtamjpnmjpponpaaGreatDoor
