/- Part 28: rules of the proofs, contracts of functions, plain facts. -/
import Derived.Test.YtoeioeimmfpefaaGreatP26
set_option linter.unusedVariables false
set_option linter.unusedSimpArgs false
set_option maxRecDepth 100000
set_option maxHeartbeats 4000000
namespace Go.Proofs.YtoeioeimmfpefaaGreat
open Go Go.RowKit
attribute [local irreducible] wpList Code.wp Ok
theorem Jz (s:Server) (m:aD):((m.bc !=eG s.site)||!gC s ⟨m.key,m.aA⟩||decide (80≤(s.bq.length:Int)))=!((m.bc==eG s.site)&&gC s ⟨m.key,m.aA⟩&&decide (s.bq.length<80)):=by
 have e:decide (80≤(s.bq.length:Int))=!decide (s.bq.length<80):=by rw[Bool.eq_iff_iff];simp;omega
 rw[e];simp[bne]
theorem JA (s:Server) (m:aD):(!cJ m.bc||(bV m.bc==bV s.site)||decide (fH s.aH ⟨m.key,m.aA⟩<0)||((ab s.aR (gx m.key).toNat).er !=1))=
 !(cJ m.bc&&(bV m.bc !=bV s.site)&&decide (0≤fH s.aH ⟨m.key,m.aA⟩)&&(eh s m.key==1)):=by
 have e:decide (fH s.aH ⟨m.key,m.aA⟩<0)=!decide (0≤fH s.aH ⟨m.key,m.aA⟩):=by rw[Bool.eq_iff_iff];simp
 rw[e];simp[bne,eh]
theorem JB (s:Server) (m:aD):((m.bc !=eG s.site)||((ab s.aR m.slot.toNat).er !=2)||((ab s.aR m.slot.toNat).bO !=m.bO))=
 !((m.bc==eG s.site)&&((ab s.aR m.slot.toNat).er==2)&&((ab s.aR m.slot.toNat).bO==m.bO)):=by simp[bne]
theorem zu (s:Server) (m:aD):(!aQ m.bc 10 11||decide (m.call<1)||!eW s m.key)=!(aQ m.bc 10 11&&decide (1≤m.call)&&eW s m.key):=by
 have e:decide (m.call<1)=!decide (1≤m.call):=by rw[Bool.eq_iff_iff];simp
 rw[e];simp
theorem JC (s:Server) (m:aD):(!cJ m.bc||(bV m.bc==bV s.site)||((m.aq.length:Int) !=1)||!eW s (ab m.aq 0).key||(bV (ab m.aq 0).aA.site==bV s.site))=!rn s m:=by
 have e:((m.aq.length:Int) !=1)=!decide (m.aq.length=1):=by rw[Bool.eq_iff_iff];simp;omega
 unfold rn
 rw[e];simp[bne]
theorem ek {α:Type} [Inhabited α] {f:α→List AV} {l:List α} {i:Nat} (h:i<l.length):(l.map f)[i]?=some (f (ab l i)):=by rw[List.getElem?_map,FG h];rfl
theorem xb {α:Type} {o:Option α} (h:(!o.isSome)=true):o=none:=by cases o;rfl;cases h
theorem xc {l:List aK} (h:cg l=true) (d:ar):iQ l d=iF l d:=by unfold iQ iF;simp[h]
set_option maxHeartbeats 4000000 in
theorem JD (s:Server) (slot:Int) (h1:cg s.aq=true) (h2:cg s.waits=true) (ho:s.aH.length≤80):
 Fn Tryz.prog 214 [s.av,AV.int slot] ((dX s slot).av):=by
 refine Fn.intro 51 Tryz.func214 rfl Tryz.ntmps214 rfl (by kernel_rfl) (fun W I a hs=>?_)
 have lens:s.aR.length≤9223372036854775807∧s.aq.length≤9223372036854775807∧s.waits.length≤9223372036854775807∧s.aH.length≤9223372036854775807∧s.bq.length≤9223372036854775807:=by
  obtain⟨cs,_,hc⟩:=hs.env 0 _ rfl
  obtain⟨u0,_,h0,_⟩:=hc.get (i:=2) rfl
  obtain⟨u1,_,h1,_⟩:=hc.get (i:=3) rfl
  obtain⟨u2,_,h2,_⟩:=hc.get (i:=4) rfl
  obtain⟨u3,_,h3,_⟩:=hc.get (i:=5) rfl
  obtain⟨u4,_,h4,_⟩:=hc.get (i:=6) rfl
  exact⟨bL h0,bL h1,bL h2,bL h3,bL h4⟩
 refine sr<|hs.box rfl .tt fun b2 I a w hs=>hs.alloc rfl ba df fun b4 I a w hs=>?_
 refine aB fun I a w hs=>?_
 refine hs.o (.cl (y8 _ _ h1)) fun hs=>?_
 refine gi fun I a w hs=>?_
 refine hs.o (.cl (y8 _ _ h2)) fun hs=>?_
 refine aW fun I a w hs=>?_
 refine nn<|sr ?_
 refine hs.cT rfl bA bk (by decide) fun Sj I a w hs=>?_
 refine ai fun I a w hs=>?_
 refine nn<|wp_block ?_
 refine St.lo (σ:=Nat×Value) (run 2 5 (run 24 24 [])) ⟨fun⟨k,v⟩=>[(6,AV.int k),(5,AV.val v)],fun⟨k,v⟩=>[Own.box b2 44 [AV.int s.site,AV.bool s.up,qJ s.aR,cv (s.aq.filter fun v=>!eF slot v),cv (s.waits.filter fun v=>!eF slot v),bl s.aH,bl s.bq],Own.box b4 44 [AV.val (.int .i64 0),AV.val (.bool false),AV.rows 2 [],AV.rows 7 [],AV.rows 7 [],AV.rows 3 [],AV.rows 3 []],Own.row v 97 3 (((s.aH.take k).filter (fun d=>!fI slot d)).map ar.cells)],fun⟨k,v⟩=>k≤s.aH.length⟩ (fun⟨k,v⟩=>s.aH.length-k) (0,.slice (some ⟨Sj,0,none⟩) 0 0) hs ?aN ?aO
 case aN=>exact Nat.zero_le _
 case aO=>
  rintro⟨k,v⟩ I a w al hs
  have hk:k≤s.aH.length:=al
  have iZ:=oM (fun d=>!fI slot d) s.aH k
  dsimp only at hs
  refine aW fun I a w hs=>?_
  refine nn ?_
  refine hs.cd (fun ae=>?_) fun ae=>?_
  ·try simp only[B] at ae
   refine cx fun I a w hs=>?_
   refine hs.o (.c1 (qW ..)) fun hs=>?_
   refine ai fun I a w hs=>?_
   refine nn ?_
   refine hs.cd (fun ah=>?_) fun ah=>?_
   ·change(fun d=>!fI slot d) (ab s.aH k)=true at ah
    refine cx fun I a w hs=>?_
    refine hs.o (.li [(ab s.aH k).cells] fU (.u .nil)) fun hs=>?_
    refine hs.append 2 rfl bA bk rfl .tt .r rfl (by simp;omega) fun Di a w hs=>?_
    rw[ck,←lC (p:=(fun d=>!fI slot d)) ae ah] at hs
    refine aJ fun I a w hs=>?_
    refine nn ?_
    exact hs.ag (k+1,Di) (ae)
   ·change(fun d=>!fI slot d) (ab s.aH k)=false at ah
    refine aB fun I a w hs=>?_
    refine nn ?_
    rw[show(s.aH.take k).filter (fun d=>!fI slot d)=(s.aH.take (k+1)).filter (fun d=>!fI slot d) from(lD ae ah).symm] at hs
    exact hs.ag (k+1,v) (ae)
  ·try simp only[B] at ae
   refine wp_exit<|aF<|aF<|aY ?_
   refine az fun I a w hs=>?_
   obtain⟨I,hs⟩:=hs.fr 2 48
   refine aJ fun I a w hs=>?_
   refine nn<|wp_ret ?_
   refine hs.ret rfl (.cons (.s 1 ba rfl rfl (by first|rfl|assumption)) aU.nil) ?_
   exact(by rw[show s.aH.take k=s.aH from List.take_of_length_le (by omega)];rfl)
set_option maxHeartbeats 4000000 in
theorem JE (s:Server) (slot:Int) (h1:cg s.aq=true) (h2:cg s.waits=true) (h0:cJ s.site=true) (h3:s.aR.length=3) (rD:0≤slot∧slot<3) (ho:s.aH.length≤80):
 Fn Tryz.prog 188 [s.av,AV.int slot] ((fg s slot).av):=by
 refine Fn.intro 63 Tryz.func188 rfl Tryz.ntmps188 rfl (by kernel_rfl) (fun W I a hs=>?_)
 have lens:s.aR.length≤9223372036854775807∧s.aq.length≤9223372036854775807∧s.waits.length≤9223372036854775807∧s.aH.length≤9223372036854775807∧s.bq.length≤9223372036854775807:=by
  obtain⟨cs,_,hc⟩:=hs.env 0 _ rfl
  obtain⟨u0,_,h0,_⟩:=hc.get (i:=2) rfl
  obtain⟨u1,_,h1,_⟩:=hc.get (i:=3) rfl
  obtain⟨u2,_,h2,_⟩:=hc.get (i:=4) rfl
  obtain⟨u3,_,h3,_⟩:=hc.get (i:=5) rfl
  obtain⟨u4,_,h4,_⟩:=hc.get (i:=6) rfl
  exact⟨bL h0,bL h1,bL h2,bL h3,bL h4⟩
 refine sr<|hs.box rfl .tt fun b2 I a w hs=>hs.alloc rfl cj dB fun b4 I a w hs=>nn<|wp_seq ?_
 refine hs.mG 14 (by kernel_rfl) (by kernel_rfl) (by kernel_rfl) ?_
 simp only[List.take_succ_cons,List.take_zero,List.drop_succ_cons,List.drop_zero]
 refine de ?_
 refine .o (.c1 (uw _ h0)) ?_
 refine jS ?_
 refine .o (.bd OU (.k (.k (.k (.k (.k aZ.nil)))))) ?_
 refine fl.alloc cj dB<|.nil ?_
 intro I a w hs
 obtain⟨b5,hs⟩:=hs.qL (d:=5) rfl
 refine hs.sb 2 fun hs=>?_
 refine wpList_nil ?_
 have hs:=hs.fi (sz:=3) 97
 refine aB fun I a w hs=>?_
 refine hs.o (.cl (y8 _ _ h1)) fun hs=>?_
 refine gi fun I a w hs=>?_
 refine hs.o (.cl (y8 _ _ h2)) fun hs=>?_
 refine cx fun I a w hs=>?_
 refine nn<|wp_block ?_
 refine St.lo (σ:=Nat×Value) (6::(run 26 36 [])) ⟨fun⟨k,v⟩=>[(6,AV.int k)],fun⟨k,v⟩=>[Own.box b2 44 s.cells,Own.box b4 74 [AV.val (.int .i64 0),AV.val (.int .i64 0),AV.val (.int .i64 0),AV.val (.int .i64 0),AV.val (.int .i64 0),AV.val (.int .i64 0),AV.val (.int .i64 0),AV.val (.int .i64 0),AV.val (.bool false),AV.rows 3 [],AV.val (.int .i64 0),AV.val (.int .i64 0),AV.rows 7 [],AV.rows 7 [],AV.rows 3 []],Own.box b5 74 [AV.int (fg s slot).kind,AV.int (fg s slot).bc,AV.int (fg s slot).to,AV.int (fg s slot).call,AV.int (fg s slot).key,AV.int (fg s slot).aA.time,AV.int (fg s slot).aA.site,AV.int (fg s slot).val,AV.bool (fg s slot).yes,AV.val (.slice none 0 0),AV.int (fg s slot).slot,AV.int (fg s slot).bO,cv (fg s slot).aq,cv (fg s slot).waits,AV.val v],Own.row v 97 3 (((s.aH.take k).filter (fI slot)).map ar.cells)],fun⟨k,v⟩=>k≤s.aH.length⟩ (fun⟨k,v⟩=>s.aH.length-k) (0,.slice none 0 0) hs ?aN ?aO
 case aN=>exact Nat.zero_le _
 case aO=>
  rintro⟨k,v⟩ I a w al hs
  have hk:k≤s.aH.length:=al
  have iZ:=oM (fI slot) s.aH k
  dsimp only at hs
  refine aW fun I a w hs=>?_
  refine nn ?_
  refine hs.cd (fun ae=>?_) fun ae=>?_
  ·try simp only[B] at ae
   refine cx fun I a w hs=>?_
   refine hs.o (.c1 (qW ..)) fun hs=>?_
   refine ai fun I a w hs=>?_
   refine nn ?_
   refine hs.cd (fun ah=>?_) fun ah=>?_
   ·change(fI slot) (ab s.aH k)=true at ah
    refine hs.dp 8 (by kernel_rfl) (by kernel_rfl) (by kernel_rfl) ?_
    simp only[List.take_succ_cons,List.take_zero,List.drop_succ_cons,List.drop_zero]
    refine jS ?_
    refine .o (.li [(ab s.aH k).cells] fU (.u .nil)) ?_
    refine .nil ?_
    intro I a w hs
    refine hs.append 3 rfl bA bk rfl .tt .r rfl (by simp;omega) fun Sk a w hs=>?_
    refine hs.o .fv fun hs=>?_
    try have aco:=hs.dS 3 rfl
    refine hs.s1 2 fun hs=>?_
    refine wpList_nil ?_
    rw[ck,←lC (p:=(fI slot)) ae ah] at hs
    refine aB fun I a w hs=>?_
    refine nn ?_
    exact hs.ag (k+1,Sk) (ae)
   ·change(fI slot) (ab s.aH k)=false at ah
    refine aB fun I a w hs=>?_
    refine nn ?_
    rw[show(s.aH.take k).filter (fI slot)=(s.aH.take (k+1)).filter (fI slot) from(lD ae ah).symm] at hs
    exact hs.ag (k+1,v) (ae)
  ·try simp only[B] at ae
   refine wp_exit<|aF<|aF<|aY<|aG<|wp_seq ?_
   have hs:=hs.km (q:=9) 2 rfl rfl (eb 3 _)
   obtain⟨I,hs⟩:=hs.fu 3 14 2
   refine ai fun I a w hs=>?_
   refine nn<|wp_ret ?_
   refine hs.ret rfl (.cons (.s 1 cj rfl rfl (by first|rfl|assumption)) aU.nil) ?_
   exact(by rw[show s.aH.take k=s.aH from List.take_of_length_le (by omega)];rfl)
theorem Sl (s:Server) (al:fV s=true):
 Fn Tryz.prog 149 [s.av] ((nT s).av):=by
 refine Fn.intro 12 Tryz.func149 rfl Tryz.ntmps149 rfl (by kernel_rfl) (fun W I a hs=>?_)
 have hp:=wV al
 refine az fun I a w hs=>?_
 refine hs.alloc rfl ba df fun b2 I a w hs=>?_
 refine az fun I a w hs=>?_
 refine hs.o (.c1 (q4 ..)) fun hs=>hs.o .nt fun hs=>nn ?_
 refine hs.cd (fun ae=>?_) fun ae=>?_
 ·exfalso;rw[al] at ae;cases ae
  skip
 ·skip
  refine az fun I a w hs=>?_
  refine hs.o (cI (wP s (by have:=ru hp.2.1;have:=ru hp.2.2.1;exact(CP al).small (by have:=gB hp.2.2.2.1;omega))) (aw (.t rfl) aP)) fun hs=>?_
  refine hs.alloc rfl ba df fun b3 I a w hs=>?_
  refine aW fun I a w hs=>?_
  refine nn<|wp_ret ?_
  refine hs.ret rfl (.cons (.s 0 ba rfl rfl (by first|rfl|assumption)) aU.nil) ?_
  rfl
theorem Sm (s:Server) (al:fV s=true):
 Fn Tryz.prog 150 [s.av] ((nS s).av):=by
 refine Fn.intro 14 Tryz.func150 rfl Tryz.ntmps150 rfl (by kernel_rfl) (fun W I a hs=>?_)
 have hp:=wV al
 refine az fun I a w hs=>?_
 refine hs.alloc rfl ba df fun b2 I a w hs=>?_
 refine az fun I a w hs=>?_
 refine hs.o (.c1 (q4 ..)) fun hs=>hs.o .nt fun hs=>nn ?_
 refine hs.cd (fun ae=>?_) fun ae=>?_
 ·exfalso;rw[al] at ae;cases ae
  skip
 ·skip
  refine az fun I a w hs=>?_
  refine hs.o (cI (wP s (by have:=ru hp.2.1;have:=ru hp.2.2.1;exact(CP al).small (by have:=gB hp.2.2.2.1;omega))) (aw (.t rfl) aP)) fun hs=>?_
  refine hs.alloc rfl ba df fun b3 I a w hs=>?_
  refine aB fun I a w hs=>?_
  refine nn<|sr ?_
  refine hs.cT rfl bA bk (by decide) fun kd I a w hs=>?_
  obtain⟨I,hs⟩:=hs.fr 2 11
  refine aJ fun I a w hs=>?_
  refine nn<|wp_ret ?_
  refine hs.ret rfl (.cons (.s 0 ba rfl rfl (by first|rfl|assumption)) aU.nil) ?_
  rfl
set_option maxHeartbeats 4000000 in
theorem Sn (s:Server) (m:aD) (al:dW s) (ho:s.aH.length≤80) (hm:bN m=true):
 Fn Tryz.prog 183 [s.av,m.av] ((mS s m).av):=by
 refine Fn.intro 57 Tryz.func183 rfl Tryz.ntmps183 rfl (by kernel_rfl) (fun W I a hs=>?_)
 have rD:=nF (IX hm)
 have h3:=al.aR
 have zw:=fun h=>IW (l:=s.aH) (d:=⟨m.key,m.aA⟩) h
 refine sr<|hs.box rfl .tt fun b2 I a w hs=>hs.o .bp fun hs=>hs.alloc rfl ba df fun b4 I a w hs=>?_
 refine cx fun I a w hs=>?_
 refine hs.o (.bd eV (.k (.t aZ.nil))) fun hs=>?_
 refine hs.o (.cl (wX s.aH ⟨m.key,m.aA⟩)) fun hs=>?_
 refine hs.s fun hs=>nn<|wp_seq<|wp_seq<|hs.dk ?_
 refine cq ?_
 refine .o (.c1 (oA ..)) ?_
 refine de ?_
 refine .q .F (.cl (nC ..)) ?_
 refine cq ?_
 refine .q .F (.cl (nC ..)) ?_
 refine OB ?_
 refine .q .F (.cl (qW ..)) ?_
 refine eK ?_
 refine .nil ?_
 intro I a w hs
 refine aG ?_
 refine hs.cd (fun ae=>?_) fun ae=>?_
 ·rw[JA s m] at ae;replace ae:=nt ae
  refine ai fun I a w hs=>?_
  refine nn<|wp_ret<|aE ?_
  refine hs.ret rfl (.cons (.s 1 ba rfl rfl (by first|rfl|assumption)) aU.nil) ?_
  exact(by unfold mS;rw[ae];rfl)
 ·rw[JA s m] at ae;replace ae:=nf ae
  refine wp_skip<|aG<|wp_seq ?_
  have hs:=hs.gN
  refine hs.eT [([],none),([],none),([0],none),([],none),([],none),([2],some (2,[48])),([],none),([0],none),([],none),([],none),([],none),([2],some (2,[])),([],none),([0],some (0,[]))] (by kernel_rfl) (by kernel_rfl) rfl ?_
  refine .o (qP bA bk) ?_
  refine bz ?_
  refine .r [0] (.lb 0) ?_
  refine bz ?_
  refine .o (vy bA bk .r .tt (fun _=>by simp only[B] at ae;have h9:=zw (by omega);simp only[List.length_map];omega)) ?_
  refine aV.vG 2 rfl rfl bA bk rfl .tt .r (by simp;omega) ?_
  refine bz ?_
  refine .r [0] (.lb 0) ?_
  refine bz ?_
  refine .o (jM .tt .c (fun _=>by simp only[B] at ae;have h9:=zw (by omega);omega)) ?_
  refine .o (AW bA bk .r .tt (fun _=>by simp only[B] at ae;have h9:=zw (by omega);simp only[List.length_map];omega)) ?_
  refine aV.x5 2 rfl rfl bA bk rfl .r (by simp;omega) ?_
  refine bz ?_
  refine aV.gz (x:=AV.any) 0 (fun F W0 I0 I a w Q hs kk=>hs.s1 0 fun hs=>kk _ _ _ hs) ?_
  refine .nil ?_
  intro I a w hs
  rw[←List.map_take,←List.map_drop,←List.map_append] at hs
  refine ai fun I a w hs=>?_
  refine nn<|wp_ret ?_
  refine hs.ret rfl (.cons (.s 1 ba rfl rfl (by first|rfl|assumption)) aU.nil) ?_
  exact(by unfold mS;rw[ae];have h9:=zw (by simp only[B] at ae;omega);rw[show((fH s.aH ⟨m.key,m.aA⟩)+1).toNat=(fH s.aH ⟨m.key,m.aA⟩).toNat+1 by simp only[B] at ae;omega];rfl)
set_option maxHeartbeats 4000000 in
theorem So (s:Server) (m:aD) (al:dW s) (h0:cJ s.site=true):
 Fn Tryz.prog 185 [s.av,m.av] ((mU s m).av):=by
 refine Fn.intro 37 Tryz.func185 rfl Tryz.ntmps185 rfl (by kernel_rfl) (fun W I a hs=>?_)
 have h8:=al.bq
 refine sr<|hs.box rfl .tt fun b2 I a w hs=>hs.o .bp fun hs=>hs.alloc rfl ba df fun b4 I a w hs=>?_
 refine aJ fun I a w hs=>?_
 refine hs.o (.bd eV (.k (.t aZ.nil))) fun hs=>?_
 refine hs.alloc rfl bk eV fun b5 I a w hs=>?_
 refine hs.sb 2 fun hs=>?_
 obtain⟨I,hs⟩:=hs.fb 2 5
 refine nn<|wp_seq<|wp_seq<|hs.dk ?_
 refine de ?_
 refine .o (.c1 (uw _ h0)) ?_
 refine de ?_
 refine .q .F (.cl (IP s ⟨m.key,m.aA⟩)) ?_
 refine mJ ?_
 refine .nil ?_
 intro I a w hs
 refine aG ?_
 refine hs.cd (fun ae=>?_) fun ae=>?_
 ·rw[Jz s m] at ae;replace ae:=nt ae
  refine ai fun I a w hs=>?_
  refine nn<|wp_ret<|aE ?_
  refine hs.ret rfl (.cons (.s 1 ba rfl rfl (by first|rfl|assumption)) aU.nil) ?_
  exact(by unfold mU;rw[ae];rfl)
 ·rw[Jz s m] at ae;replace ae:=nf ae
  refine aB fun I a w hs=>?_
  refine hs.o (cI (CK s.bq ⟨m.key,m.aA⟩ (by omega)) (aw .r (aw (.t rfl) aP))) fun hs=>?_
  refine aB fun I a w hs=>?_
  refine hs.o (cI (uB {s with bq:=dV s.bq ⟨m.key,m.aA⟩} (al.IV (by simp only[B] at ae;omega))) (aw (.t rfl) aP)) fun hs=>?_
  refine hs.sb 1 fun hs=>?_
  refine nn<|wp_ret ?_
  refine hs.ret rfl (.cons (.s 1 ba rfl rfl (by first|rfl|assumption)) aU.nil) ?_
  exact(by unfold mU;rw[ae];rfl)
set_option maxHeartbeats 4000000 in
theorem Sp (s:Server) (m:aD) (al:dW s) (h0:cJ s.site=true) (ho:s.aH.length≤80) (hm:bN m=true):
 Fn Tryz.prog 187 [s.av,m.av] ((mi s m).av):=by
 refine Fn.intro 53 Tryz.func187 rfl Tryz.ntmps187 rfl (by kernel_rfl) (fun W I a hs=>?_)
 have rD:=zc hm
 have h3:=al.aR
 have h4:(dX s m.slot).aR.length=3:=h3
 have e9:∀x,x=dt.cells ⟨m.bO,0⟩→(List.map dt.cells (dX s m.slot).aR).set m.slot.toNat x=List.map dt.cells (rp s m).aR:=fun x h=>by rw[h];exact List.map_set.symm
 refine sr<|hs.box rfl .tt fun b2 I a w hs=>hs.o .bp fun hs=>hs.alloc rfl ba df fun b4 I a w hs=>nn<|wp_seq<|wp_seq<|hs.dk ?_
 refine de ?_
 refine .o (.c1 (uw _ h0)) ?_
 refine lY ?_
 refine jS ?_
 refine .nil ?_
 intro I a w hs
 refine aG ?_
 refine hs.cd (fun ae=>?_) fun ae=>?_
 ·rw[JB s m] at ae;replace ae:=nt ae
  refine ai fun I a w hs=>?_
  refine nn<|wp_ret<|aE ?_
  refine hs.ret rfl (.cons (.s 1 ba rfl rfl (by first|rfl|assumption)) aU.nil) ?_
  exact(by unfold mi;rw[ae];rfl)
 ·rw[JB s m] at ae;replace ae:=nf ae
  refine aB fun I a w hs=>?_
  refine hs.o (.c2 (JD s m.slot al.aq al.waits ho)) fun hs=>?_
  refine hs.sb 0 fun hs=>?_
  refine nn<|sr ?_
  refine hs.cT rfl ea dz (by decide) fun b38 I a w hs=>?_
  refine ai fun I a w hs=>?_
  refine hs.append 2 rfl ea dz rfl .tt .r rfl (by simp;omega) fun zx a w hs=>?_
  refine hs.o .fv fun hs=>?_
  try have acq:=hs.dS 2 rfl
  refine hs.s1 0 fun hs=>?_
  refine nn<|wp_seq ?_
  simp only[List.nil_append] at hs
  obtain⟨b41,acs,Sq⟩:=hs.g8 2 rfl (by simp only[List.length_map];omega)
  subst Sq
  refine cx fun I a w hs=>?_
  refine hs.o (.bd lZ (.k aZ.nil)) fun hs=>?_
  refine hs.o (gv ea dz .tt .tt (fun _=>by simp only[List.length_map];omega)) fun hs=>?_
  refine hs.jx 2 dz .tt .tt rfl (by exact ek (by omega)) rfl rfl fun a w hs=>?_
  refine nn<|wp_seq ?_
  rw[e9] at hs
  rotate_left
  ·rfl
  obtain⟨I,hs⟩:=hs.fu 2 2 0
  refine az fun I a w hs=>?_
  refine hs.o (.c1 (uB (rp s m) (al.gone m))) fun hs=>?_
  refine hs.sb 1 fun hs=>?_
  refine nn<|wp_ret ?_
  refine hs.ret rfl (.cons (.s 1 ba rfl rfl (by first|rfl|assumption)) aU.nil) ?_
  exact(by unfold mi;rw[ae];rfl)
set_option maxHeartbeats 4000000 in
theorem Sr (s:Server) (m:aD) (al:fV s=true):
 Fn Tryz.prog 181 [s.av,m.av] (bj (gW s m)):=by
 refine Fn.intro 68 Tryz.func181 rfl Tryz.ntmps181 rfl (by kernel_rfl) (fun W I a hs=>?_)
 have hp:=wV al
 refine aW fun I a w hs=>?_
 refine hs.o (.c1 (wg ..)) fun hs=>?_
 refine kq fun I a w hs=>?_
 refine hs.q .F (.cl (CN _ _ al)) fun hs=>?_
 refine ai fun I a w hs=>?_
 refine nn ?_
 refine hs.cd (fun ae=>?_) fun ae=>?_
 ·rw[zu s m] at ae;replace ae:=nt ae
  refine sr ?_
  refine hs.cT rfl dh cj (by decide) fun b24 I a w hs=>?_
  refine hs.s fun hs=>nn<|wp_ret<|aE ?_
  obtain⟨I,hs⟩:=hs.fr 0 4
  refine hs.rt ?_
  exact(by unfold gW;rw[ae];rfl)
 ·rw[zu s m] at ae;replace ae:=nf ae
  refine aJ fun I a w hs=>?_
  refine hs.o (.cl (IK _ _ hp.2.1)) fun hs=>?_
  refine aB fun I a w hs=>?_
  refine hs.alloc rfl bt dO fun b5 I a w hs=>?_
  refine aJ fun I a w hs=>?_
  refine hs.o (.bd iC aZ.nil) fun hs=>?_
  refine hs.o (r6 [_,_] [_,_] l3 rfl rfl .tt .tt) fun hs=>nn ?_
  refine hs.cd (fun ah=>?_) fun ah=>?_
  ·rw[yO m.aA] at ah;replace ah:=nt ah
   refine cx fun I a w hs=>?_
   refine hs.o (.cl (pX ..)) fun hs=>?_
   refine dq fun I a w hs=>?_
   refine nn ?_
   refine hs.cd (fun aj=>?_) fun aj=>?_
   ·skip
    refine sr ?_
    refine hs.cT rfl dh cj (by decide) fun b49 I a w hs=>?_
    refine hs.s fun hs=>nn<|wp_ret<|aE ?_
    obtain⟨I,hs⟩:=hs.fr 1 4
    refine hs.rt ?_
    exact(by unfold gW;rw[ae,if_pos rfl,ah,if_neg (by simp)];rw[xc hp.2.1] at aj;rw[xb aj];rfl)
   ·skip
    refine qR fun I a w hs=>?_
    refine hs.o (.bd dB (.k (.k (.k (.k (.k (.t (.k aZ.nil)))))))) fun hs=>?_
    refine hs.alloc rfl cj dB fun b7 I a w hs=>?_
    refine ai fun I a w hs=>?_
    refine nn ?_
    refine hs.cd (fun aI=>?_) fun aI=>?_
    ·skip
     refine az fun I a w hs=>?_
     refine hs.o (.li [_] jD (.u .nil)) fun hs=>?_
     refine aB fun I a w hs=>?_
     refine hs.o (.li [_] fF (.u .nil)) fun hs=>?_
     refine hs.s fun hs=>nn<|wp_ret ?_
     refine hs.rt ?_
     exact(by unfold gW;rw[ae,if_pos rfl,ah,if_neg (by simp)];rw[xc hp.2.1] at aI⊢;obtain⟨v,hv⟩:=Option.isSome_iff_exists.1 aI;rw[hv];rfl)
    ·skip
     refine az fun I a w hs=>?_
     refine hs.o (.li [_] fF (.u .nil)) fun hs=>?_
     refine hs.s fun hs=>nn<|wp_ret ?_
     refine hs.rt ?_
     exact(by simp only[B] at aj;rw[aj] at aI;cases aI)
  ·rw[yO m.aA] at ah;replace ah:=nf ah
   refine qR fun I a w hs=>?_
   refine hs.o (.bd dB (.k (.k (.k (.k (.k (.t (.k aZ.nil)))))))) fun hs=>?_
   refine hs.alloc rfl cj dB fun b7 I a w hs=>?_
   refine ai fun I a w hs=>?_
   refine nn ?_
   refine hs.cd (fun aL=>?_) fun aL=>?_
   ·skip
    refine az fun I a w hs=>?_
    refine hs.o (.li [_] jD (.u .nil)) fun hs=>?_
    refine aB fun I a w hs=>?_
    refine hs.o (.li [_] fF (.u .nil)) fun hs=>?_
    refine hs.s fun hs=>nn<|wp_ret ?_
    refine hs.rt ?_
    exact(by unfold gW;rw[ae,if_pos rfl,ah,if_pos rfl];obtain⟨v,hv⟩:=Option.isSome_iff_exists.1 aL;unfold kJ;rw[hv];rfl)
   ·skip
    refine az fun I a w hs=>?_
    refine hs.o (.li [_] fF (.u .nil)) fun hs=>?_
    refine hs.s fun hs=>nn<|wp_ret ?_
    refine hs.rt ?_
    exact(by unfold gW;rw[ae,if_pos rfl,ah,if_pos rfl];unfold kJ;rw[show fG s.aq m.key=none from xb (by rw[aL];rfl)];rfl)
end Go.Proofs.YtoeioeimmfpefaaGreat
