/- Part 37: rules of the proofs, contracts of functions, plain facts. -/
import Derived.Test.YtoeioeimmfpefaaGreatP35
set_option linter.unusedVariables false
set_option linter.unusedSimpArgs false
set_option maxRecDepth 100000
set_option maxHeartbeats 4000000
namespace Go.Proofs.YtoeioeimmfpefaaGreat
open Go Go.RowKit
attribute [local irreducible] wpList Code.wp Ok
theorem K0 (s:Server) (m:aD) (v:aK):(v.key==m.key&&v.aC==m.bc-10&&v.call==m.call&&!(bV v.aA.site !=bV s.site))=nR s m.key (m.bc-10) m.call v:=by unfold nR;simp[bne]
theorem K1 {s:Server} {m:aD} (h:s.aH.length≤80):(!iG (iT s m)||((s.aH.length:Int)==80))=!(iG (iT s m)&&decide (s.aH.length<80)):=by
 have e:((s.aH.length:Int)==80)=!decide (s.aH.length<80):=by rw[Bool.eq_iff_iff];simp;omega
 rw[e];simp
theorem Ux {a b c:Bool} (h:(a&&c)=true) (k:b=true):(a&&b&&c)=true:=by rw[Bool.and_right_comm,h,k];rfl
theorem K2 {s:Server} {m:aD} {k:Nat} (hk:k<s.aq.length) (h:∀i,i<k→nR s m.key (m.bc-10) m.call (ab s.aq i)=false) (hp:nR s m.key (m.bc-10) m.call (ab s.aq k)=true):jF s m.key (m.bc-10) m.call=some (ab s.aq k):=II hk h hp
theorem DW {s:Server} {m:aD} {k:Nat} (hk:s.aq.length≤k) (h:∀i,i<k→nR s m.key (m.bc-10) m.call (ab s.aq i)=false):(jF s m.key (m.bc-10) m.call).isSome=false:=by unfold jF;rw[IJ hk h];rfl
set_option maxHeartbeats 4000000 in
theorem Uy (s:Server) (m:aD) (hg:bw s) (hm:bN m=true) (ho:(aQ m.bc 10 11&&decide (1≤m.call)&&eW s m.key)=true):
 Fn Tryz.prog 217 [s.av,m.av] (AV.c9 [(gE s m).1.av,bj (gE s m).2]):=by
 refine Fn.intro 150 Tryz.func217 rfl Tryz.ntmps217 rfl (by kernel_rfl) (fun W I a hs=>?_)
 have hs:=hs.fi (sz:=2) 48
 have al:=iw.2 hg
 have cH:=hg.ok
 have gI:=hg.small
 have ju:=mo hm
 have wB:=gm ju.2.2.2
 have lens:m.aS.length≤9223372036854775807∧m.aq.length≤9223372036854775807∧m.waits.length≤9223372036854775807∧m.aH.length≤9223372036854775807:=by
  obtain⟨cs,_,hc⟩:=hs.env 1 _ rfl
  obtain⟨u0,_,h0,_⟩:=hc.get (i:=9) rfl
  obtain⟨u1,_,h1,_⟩:=hc.get (i:=12) rfl
  obtain⟨u2,_,h2,_⟩:=hc.get (i:=13) rfl
  obtain⟨u3,_,h3,_⟩:=hc.get (i:=14) rfl
  exact⟨bL h0,bL h1,bL h2,bL h3⟩
 have Uz:=ry hm
 have acS:=gI.2.1.1
 have gf:=gB hg.aH
 refine ai fun I a w hs=>?_
 refine hs.alloc rfl ba df fun b4 I a w hs=>?_
 refine jR fun I a w hs=>?_
 refine hs.o (.bd dB (.k (.k (.k aZ.nil)))) fun hs=>?_
 refine hs.alloc rfl cj dB fun b7 I a w hs=>?_
 refine aW fun I a w hs=>?_
 refine nn<|wp_block ?_
 refine St.lo (σ:=Nat) (5::(9::(run 37 31 []))) ⟨fun k=>[(31,AV.int k)],fun k=>[Own.row (.slice none 0 0) 48 2 (([]).map ct.cells),Own.box b4 44 [AV.val (.int .i64 0),AV.val (.bool false),AV.rows 2 [],AV.rows 7 [],AV.rows 7 [],AV.rows 3 [],AV.rows 3 []],Own.box b7 74 [AV.int 2,AV.int 0,AV.int 0,AV.int m.call,AV.int m.key,AV.int 0,AV.int 0,AV.int 0,AV.bool false,bl [],AV.int 0,AV.int 0,cv [],cv [],bl []]],fun k=>k≤s.aq.length∧∀i,i<k→nR s m.key (m.bc-10) m.call (ab s.aq i)=false⟩ (fun k=>s.aq.length-k) 0 hs ?aN ?aO
 case aN=>exact⟨Nat.zero_le _,fun i hi=>by omega⟩
 case aO=>
  rintro k I a w al hs
  obtain⟨hk,aT⟩:=al
  refine az fun I a w hs=>?_
  refine nn<|wp_seq ?_
  refine hs.cd (fun ae=>?_) fun ae=>?_
  ·try simp only[B] at ae
   refine ai fun I a w hs=>?_
   refine hs.alloc rfl bt dO fun b9 I a w hs=>?_
   refine hs.sb 3 fun hs=>?_
   obtain⟨I,hs⟩:=hs.fb 3 9
   refine G3 fun I a w hs=>?_
   refine hs.q .T (.cl (Cc s (ab s.aq k))) fun hs=>?_
   refine ai fun I a w hs=>?_
   refine nn ?_
   refine hs.cd (fun ah=>?_) fun ah=>?_
   ·rw[K0] at ah
    refine aB fun I a w hs=>?_
    refine hs.oi 2 gj .tt .tt rfl rfl rfl fun a w hs=>nn<|wp_seq ?_
    refine hs.dp 5 (by kernel_rfl) (by kernel_rfl) (by kernel_rfl) ?_
    simp only[List.take_succ_cons,List.take_zero,List.drop_succ_cons,List.drop_zero]
    refine de ?_
    refine .o (.c3 (qu s m ⟨2,0,0,m.call,m.key,(ab s.aq k).aA,0,false,[],0,0,[],[],[]⟩ (td ..)))<|.nil ?_
    intro I a w hs
    refine ai fun I a w hs=>?_
    refine nn<|wp_ret<|bh<|aE<|aE<|bh<|aE ?_
    refine hs.ret rfl (.cons (.s 1 ba rfl rfl (by first|rfl|assumption)) (.cons (by first|exact .t rfl|exact .nil rfl) aU.nil)) ?_
    exact(by rw[JI ho (by rw[K2 ae aT ah];rfl),K2 ae aT ah];rfl)
   ·rw[K0] at ah
    refine ai fun I a w hs=>?_
    refine nn ?_
    have hs:=hs.drop 3
    exact hs.ag (k+1) (⟨by omega,fun i h1=>by rcases Nat.lt_succ_iff_lt_or_eq.1 h1 with h|h;exact aT i h;rw[h];exact ah⟩)
  ·try simp only[B] at ae
   refine wp_exit<|aF<|aF<|aY ?_
   refine aW fun I a w hs=>?_
   refine nn<|wp_block ?_
   refine St.lo (σ:=Nat×Value) (10::(12::(run 10 71 []))) ⟨fun⟨k,v⟩=>[(71,AV.int k),(10,AV.val v)],fun⟨k,v⟩=>[Own.row v 48 2 (((m.aS.take k).map ar.aA).map ct.cells),Own.box b4 44 [AV.val (.int .i64 0),AV.val (.bool false),AV.rows 2 [],AV.rows 7 [],AV.rows 7 [],AV.rows 3 [],AV.rows 3 []],Own.box b7 74 [AV.int 2,AV.int 0,AV.int 0,AV.int m.call,AV.int m.key,AV.int 0,AV.int 0,AV.int 0,AV.bool false,bl [],AV.int 0,AV.int 0,cv [],cv [],bl []]],fun⟨k,v⟩=>k≤m.aS.length⟩ (fun⟨k,v⟩=>m.aS.length-k) (0,.slice none 0 0) hs ?dT ?dU
   case dT=>exact Nat.zero_le _
   case dU=>
    rintro⟨k,v⟩ I a w al hs
    have hk:k≤m.aS.length:=al
    dsimp only at hs
    refine az fun I a w hs=>?_
    refine nn<|wp_seq ?_
    refine hs.cd (fun aj=>?_) fun aj=>?_
    ·try simp only[B] at aj
     refine ai fun I a w hs=>?_
     refine hs.alloc rfl bk eV fun sK I a w hs=>?_
     refine hs.sb 3 fun hs=>?_
     obtain⟨I,hs⟩:=hs.fb 3 12
     refine aB fun I a w hs=>?_
     refine hs.o (.li [(ab m.aS k).aA.cells] yo (.u .nil)) fun hs=>?_
     refine hs.append 0 rfl v8 gj rfl .tt .r rfl (by simp;omega) fun UA a w hs=>?_
     refine aB fun I a w hs=>?_
     refine nn ?_
     have hs:=hs.drop 3
     rw[ck,show(m.aS.take k).map ar.aA++[(ab m.aS k).aA]=(m.aS.take (k+1)).map ar.aA from by rw[dL aj,List.map_append];rfl] at hs
     exact hs.ag (k+1,UA) (aj)
    ·try simp only[B] at aj
     refine wp_exit<|aF<|aF<|aY<|aG ?_
     refine St.cut (σ:=Value) (10::(run 2 13 (run 14 81 []))) ⟨fun v=>[(10,AV.val v)],fun v=>[Own.row v 48 2 ((iT s m).map ct.cells),Own.box b4 44 [AV.val (.int .i64 0),AV.val (.bool false),AV.rows 2 [],AV.rows 7 [],AV.rows 7 [],AV.rows 3 [],AV.rows 3 []],Own.box b7 74 [AV.int 2,AV.int 0,AV.int 0,AV.int m.call,AV.int m.key,AV.int 0,AV.int 0,AV.int 0,AV.bool false,bl [],AV.int 0,AV.int 0,cv [],cv [],bl []],Own.gone],fun v=>True⟩ hs ?UB ?UC
     case UB=>
      refine aJ fun I a w hs=>?_
      refine hs.o (.cl (KN s.aq m.key gI.2.1.2)) fun hs=>?_
      refine aB fun I a w hs=>?_
      refine hs.alloc rfl bt dO fun yD I a w hs=>?_
      refine hs.sb 3 fun hs=>?_
      obtain⟨I,hs⟩:=hs.fb 3 13
      refine ai fun I a w hs=>?_
      refine nn ?_
      refine hs.cd (fun aI=>?_) fun aI=>?_
      ·skip
       refine aB fun I a w hs=>?_
       refine hs.o (.li [((fG s.aq m.key).getD default).aA.cells] yo (.u .nil)) fun hs=>?_
       refine hs.append 0 rfl v8 gj rfl .tt .r rfl (by simp;omega) fun UD a w hs=>?_
       refine hs.s fun hs=>nn ?_
       first|rw[ck,show m.aS.take k=m.aS from List.take_of_length_le (by omega),zB aI] at hs|rw[show m.aS.take k=m.aS from List.take_of_length_le (by omega),zC aI] at hs
       exact hs.me UD (by trivial)
      ·skip
       refine wp_skip<|aG ?_
       first|rw[ck,show m.aS.take k=m.aS from List.take_of_length_le (by omega),zB aI] at hs|rw[show m.aS.take k=m.aS from List.take_of_length_le (by omega),zC aI] at hs
       exact hs.me v (by trivial)
     case UC=>
      rintro v I a w al hs
      refine aB fun I a w hs=>?_
      obtain⟨I,hs⟩:=hs.fr 0 98
      refine hs.o (.cl (Si s.site (iT s m) hg.site (CZ hg hm))) fun hs=>?_
      refine aB fun I a w hs=>?_
      refine hs.alloc rfl gj iC fun CL I a w hs=>?_
      refine hs.sb 4 fun hs=>?_
      obtain⟨I,hs⟩:=hs.fb 4 15
      refine qR fun I a w hs=>?_
      refine hs.o (.bd dO (.k (.t (.k (.k (.k (.k aZ.nil))))))) fun hs=>?_
      refine hs.alloc rfl bt dO fun UE I a w hs=>?_
      refine hs.sb 5 fun hs=>?_
      obtain⟨I,hs⟩:=hs.fb 5 17
      refine gi fun I a w hs=>?_
      refine nn ?_
      refine hs.cd (fun aL=>?_) fun aL=>?_
      ·rw[K1 gf] at aL;replace aL:=nt aL
       refine aB fun I a w hs=>?_
       refine nn<|wp_ret<|aE ?_
       refine hs.ret rfl (.cons (.s 1 ba rfl rfl (by first|rfl|assumption)) (.cons (.nil (sz:=15) rfl) aU.nil)) ?_
       exact(by rw[Dp ho (DW (by omega) aT) (by rw[Bool.and_right_comm,aL];rfl)];rfl)
      ·rw[K1 gf] at aL;replace aL:=nf aL
       refine aB fun I a w hs=>?_
       refine hs.o (.cl (Jw s.aq (fJ s m) cH.aq)) fun hs=>?_
       refine dq fun I a w hs=>?_
       refine nn ?_
       refine hs.cd (fun bf=>?_) fun bf=>?_
       ·replace bf:=nt bf
        refine aB fun I a w hs=>?_
        refine nn<|wp_ret<|aE ?_
        refine hs.ret rfl (.cons (.s 1 ba rfl rfl (by first|rfl|assumption)) (.cons (.nil (sz:=15) rfl) aU.nil)) ?_
        exact(by rw[Dp ho (DW (by omega) aT) (by rw[bf];simp)];rfl)
       ·replace bf:=nf bf;have jO:=Ux aL bf;rw[if_pos bf] at hs
        refine az fun I a w hs=>?_
        refine hs.o (.c1 (qk s gI)) fun hs=>hs.alloc rfl ba df fun b19 I a w hs=>?_
        refine aB fun I a w hs=>?_
        refine hs.s1 6 fun hs=>?_
        refine nn<|wp_seq ?_
        refine hs.dp 6 (by kernel_rfl) (by kernel_rfl) (by kernel_rfl) ?_
        simp only[List.take_succ_cons,List.take_zero,List.drop_succ_cons,List.drop_zero]
        refine du ?_
        refine .o (.c1 (l4 (fJ s m))) ?_
        refine .o (cI (Dg s.aH (fJ s m).bH (by have:=gB hg.aH;omega)) (aw .r (aw (.t rfl) aP))) ?_
        refine bz ?_
        refine .nil ?_
        intro I a w hs
        refine hs.s1 6 fun hs=>?_
        refine ai fun I a w hs=>?_
        refine hs.oi 2 gj .tt .tt rfl rfl rfl fun a w hs=>nn<|wp_seq ?_
        refine hs.dp 6 (by kernel_rfl) (by kernel_rfl) (by kernel_rfl) ?_
        simp only[List.take_succ_cons,List.take_zero,List.drop_succ_cons,List.drop_zero]
        refine bz ?_
        refine .o (cI (uM {s with aq:=eE s.aq (fJ s m),aH:=dV s.aH (fJ s m).bH} (Dn hg hm (by simp only[Bool.and_eq_true] at ho;exact ho.2) jO).ok (gB (Dn hg hm (by simp only[Bool.and_eq_true] at ho;exact ho.2) jO).aH)) (aw (.t rfl) aP)) ?_
        refine du ?_
        refine .o (.c3 (qu s m ⟨2,0,0,m.call,m.key,(fJ s m).aA,0,false,[],0,0,[],[],[]⟩ (td ..)))<|.nil ?_
        intro I a w hs
        refine ai fun I a w hs=>?_
        refine nn<|wp_ret ?_
        refine hs.ret rfl (.cons (.s 1 ba rfl rfl (by first|rfl|assumption)) (.cons (by first|exact .t rfl|exact .nil rfl) aU.nil)) ?_
        exact(by rw[JJ ho (DW (by omega) aT) jO];rfl)
theorem UF (m:aD) (d:ar):
 Fn Tryz.prog 221 [d.av,AV.ptr m.cells] (AV.bool (decide (d=⟨m.key,m.aA⟩))):=by
 refine Fn.intro 11 Tryz.func221 rfl Tryz.ntmps221 rfl (by kernel_rfl) (fun W I a hs=>?_)
 refine dq fun I a w hs=>?_
 refine hs.o (.bd eV (.k (.t aZ.nil))) fun hs=>?_
 refine hs.o (lf [_,_,_] [_,_,_] tU rfl rfl .tt .tt) fun hs=>hs.s fun hs=>nn<|wp_ret ?_
 refine hs.rt ?_
 exact congrArg AV.bool (wU d ⟨m.key,m.aA⟩)
theorem K3 (x:Int):eC (x-10)=aQ x 10 11:=by
 unfold eC aQ;rw[Bool.eq_iff_iff];simp;omega
theorem zS {s:Server} {m:aD} {k:Int} (h:(m.kind==k&&eC (m.bc-10)&&decide (0<m.call)&&eW s m.key)=true):m.kind=k∧(aQ m.bc 10 11&&decide (1≤m.call)&&eW s m.key)=true:=by
 rw[K3] at h
 simp only[Bool.and_eq_true,beq_iff_eq,decide_eq_true_eq] at h⊢
 exact⟨h.1.1.1,⟨h.1.1.2,by omega⟩,h.2⟩
theorem K4 {s:Server} {m:aD} {k:Int} (h:(m.kind==k&&eC (m.bc-10)&&decide (0<m.call)&&eW s m.key)=false) (hk:m.kind=k):(aQ m.bc 10 11&&decide (1≤m.call)&&eW s m.key)=false:=by
 rw[K3,hk] at h
 simp only[beq_self_eq_true,Bool.true_and] at h
 rw[show decide (1≤m.call)=decide (0<m.call) from by rw[Bool.eq_iff_iff];simp;omega]
 exact h
theorem K5 {s:Server} {m:aD} (h:(m.kind==5&&(cJ m.bc&&(bV m.bc !=bV s.site)))=true):m.kind=5∧(cJ m.bc&&(bV m.bc !=bV s.site))=true:=by
 rw[Bool.and_eq_true,beq_iff_eq] at h;exact h
theorem UG {s:Server} {m:aD} (h:(m.kind==7&&(m.bc==eG s.site)&&decide (0≤placeOf s.aq ⟨m.key,m.aA⟩))=true):dY s m=(s,[kO s m]):=by
 simp only[Bool.and_eq_true,beq_iff_eq,decide_eq_true_eq] at h
 unfold dY
 rw[h.1.1]
 show(s,mT s m)=_
 unfold mT iF
 rw[if_pos h.2,h.1.2];simp
theorem UH {s:Server} {m:aD} (h:(m.kind==8&&(m.bc==eG s.site)&&gC s ⟨m.key,m.aA⟩&&decide ((s.bq.length:Int)<80))=true):dY s m=(fX {s with bq:=dV s.bq ⟨m.key,m.aA⟩},[]):=by
 simp only[Bool.and_eq_true,beq_iff_eq,decide_eq_true_eq] at h
 have hl:s.bq.length<80:=by omega
 rw[n2 h.1.1.1]
 unfold mU
 rw[if_pos (by simp only[Bool.and_eq_true,beq_iff_eq,decide_eq_true_eq];exact⟨⟨h.1.1.2,h.1.2⟩,hl⟩)]
theorem UI {s:Server} {m:aD} (h:(m.kind==10&&(m.bc==eG s.site)&&([(ab s.aR m.slot.toNat).bO,(ab s.aR m.slot.toNat).er]==[m.bO,2]))=true):(dt.cells (ab s.aR m.slot.toNat)).set 1 (AV.int 0)=dt.cells ⟨m.bO,0⟩:=by
 simp only[Bool.and_eq_true,beq_iff_eq,List.cons.injEq] at h
 show[AV.int _,AV.int 0]=[AV.int _,AV.int 0]
 rw[h.2.1]
theorem UJ {s:Server} {m:aD} (h:(m.kind==10&&(m.bc==eG s.site)&&([(ab s.aR m.slot.toNat).bO,(ab s.aR m.slot.toNat).er]==[m.bO,2]))=true):dY s m=(fX (rp s m),[]):=by
 simp only[Bool.and_eq_true,beq_iff_eq,List.cons.injEq] at h
 rw[n4 h.1.1]
 unfold mi
 rw[if_pos (by simp only[Bool.and_eq_true,beq_iff_eq];exact⟨⟨h.1.2,h.2.2.1⟩,h.2.1⟩)]
theorem K6 {s:Server} {m:aD} (h:(m.kind==9&&(m.bc==eG s.site)&&decide (0<m.bO))=true):m.kind=9∧((m.bc==eG s.site)&&decide (1≤m.bO))=true:=by
 simp only[Bool.and_eq_true,beq_iff_eq,decide_eq_true_eq] at h⊢;exact⟨h.1.1,h.1.2,by omega⟩
theorem UK {l:List ar} {d:ar} {k:Nat} (h:l.Pairwise fun a b=>a≠b) (hk:k<l.length) (e:ab l k=d):l.filter (fun x=>!decide (x=d))=l.take k++l.drop (k+1):=by
 have e1:l=l.take k++d::l.drop (k+1):=by rw[←e,←jw hk,List.take_append_drop]
 have hp:=h
 rw[e1,List.pairwise_append,List.pairwise_cons] at hp
 conv=>lhs;rw[e1]
 rw[List.filter_append,List.filter_cons_of_neg (by simp),List.filter_eq_self.2 fun x hx=>(by simpa using hp.2.2 x hx d (by simp)),List.filter_eq_self.2 fun x hx=>(by simpa using fun e=>hp.2.1.1 x hx e.symm)]
theorem UL {s:Server} {d:ar} (h:fe s.aH=true):s.aH.filter (fun x=>!decide (x=d))=if 0≤fH s.aH d then s.aH.take (fH s.aH d).toNat++s.aH.drop ((fH s.aH d).toNat+1) else s.aH:=by
 split
 ·rename_i hi
  refine UK ((ux.1 h).2.2.imp fun{a b} hl e=>?_) (IW hi) (of_decide_eq_true (zy (p:=fun e=>decide (e=d)) hi).2.1)
  subst e
  rw[yU] at hl;cases hl
 ·rename_i hi
  exact List.filter_eq_self.2 fun x hx=>by simpa using Jr (by omega) x hx
theorem UM {s:Server} {m:aD} (hg:bw s) (h:(m.kind==6&&(cJ m.bc&&(bV m.bc !=bV s.site))&&eW s m.key)=true):dY s m=({s with aH:=s.aH.filter (fun d=>!decide (d=⟨m.key,m.aA⟩))},[]):=by
 simp only[Bool.and_eq_true,beq_iff_eq] at h
 obtain⟨⟨h1,h2,h3⟩,h4⟩:=h
 have h5:(eh s m.key==1)=true:=by unfold eW at h4;rw[Bool.and_eq_true] at h4;exact h4.2
 rw[n1 h1,UL hg.aH]
 unfold mS
 rw[h2,h3,h5]
 by_cases hi:0≤fH s.aH ⟨m.key,m.aA⟩
 ·rw[if_pos hi,if_pos (by simp[hi])]
 ·rw[if_neg hi,if_neg (by simp[hi])]
theorem uT {m:aD} {k:Int} {b:Bool} (h:(m.kind==k&&b)=false) (hk:m.kind=k):b=false:=by rw[hk,beq_self_eq_true,Bool.true_and] at h;exact h
theorem UN {s:Server} {m:aD} (hm:bN m=true) (h1:(m.kind==1&&eC (m.bc-10)&&decide (0<m.call)&&eW s m.key)=false) (h2:(m.kind==3&&eC (m.bc-10)&&decide (0<m.call)&&eW s m.key)=false)
 (h3:(m.kind==5&&(cJ m.bc&&(bV m.bc !=bV s.site)))=false) (h4:(m.kind==6&&(cJ m.bc&&(bV m.bc !=bV s.site))&&eW s m.key)=false) (h5:(m.kind==7&&(m.bc==eG s.site)&&decide (0≤placeOf s.aq ⟨m.key,m.aA⟩))=false)
 (h6:(m.kind==8&&(m.bc==eG s.site)&&gC s ⟨m.key,m.aA⟩&&decide ((s.bq.length:Int)<80))=false) (h7:(m.kind==9&&(m.bc==eG s.site)&&decide (0<m.bO))=false)
 (h8:(m.kind==10&&(m.bc==eG s.site)&&([(ab s.aR m.slot.toNat).bO,(ab s.aR m.slot.toNat).er]==[m.bO,2]))=false):dY s m=(s,[]):=by
 rw[Bool.and_assoc] at h4 h5 h7 h8
 rw[Bool.and_assoc,Bool.and_assoc] at h6
 unfold dY
 by_cases k1:m.kind=1
 ·rw[if_pos k1];unfold gE;rw[K4 h1 k1];rfl
 rw[if_neg k1]
 by_cases k3:m.kind=3
 ·rw[if_pos k3];unfold gW;rw[K4 h2 k3];rfl
 rw[if_neg k3]
 by_cases k5:m.kind=5
 ·rw[if_pos k5];unfold gF rn;rw[uT h3 k5];rfl
 rw[if_neg k5]
 by_cases k6:m.kind=6
 ·have h:=uT h4 k6
  rw[if_pos k6];unfold mS
  rw[if_neg]
  intro e
  unfold eW at h
  rw[IX hm,Bool.true_and] at h
  simp only[Bool.and_eq_true] at e
  rw[e.1.1.1,e.1.1.2,e.2] at h;cases h
 rw[if_neg k6]
 by_cases k7:m.kind=7
 ·have h:=uT h5 k7
  rw[if_pos k7];unfold mT iF
  rw[if_neg]
  intro e
  rw[Bool.and_eq_true] at e
  split at e
  ·rename_i hp;rw[e.2,decide_eq_true hp] at h;cases h
  ·cases e.1
 rw[if_neg k7]
 by_cases k8:m.kind=8
 ·have h:=uT h6 k8
  rw[if_pos k8];unfold mU
  rw[if_neg]
  intro e
  simp only[Bool.and_eq_true,decide_eq_true_eq] at e
  rw[e.1.1,e.1.2,decide_eq_true (by omega)] at h;cases h
 rw[if_neg k8]
 by_cases k9:m.kind=9
 ·have h:=uT h7 k9
  rw[if_pos k9];unfold gp
  rw[if_neg]
  intro e
  simp only[Bool.and_eq_true,decide_eq_true_eq] at e
  rw[e.1,decide_eq_true (by omega)] at h;cases h
 rw[if_neg k9]
 by_cases uU:m.kind=10
 ·have h:=uT h8 uU
  rw[if_pos uU];unfold mi
  rw[if_neg]
  intro e
  simp only[Bool.and_eq_true,beq_iff_eq] at e
  rw[e.1.2,e.2,e.1.1] at h;simp at h
 rw[if_neg uU]
set_option maxHeartbeats 4000000 in
theorem UO (s:Server) (m:aD) (hg:bw s) (hm:bN m=true):
 Fn Tryz.prog 196 [s.av,m.av] (AV.c9 [(dY s m).1.av,bj (dY s m).2]):=by
 refine Fn.intro 224 Tryz.func196 rfl Tryz.ntmps196 rfl (by kernel_rfl) (fun W I a hs=>?_)
 have al:=iw.2 hg
 have cH:=hg.ok
 have gI:=hg.small
 have DX:=hg.aR
 have rD:=zc hm
 have Uz:=ry hm
 have acU:=cH.bq
 have e9:∀x,x=dt.cells ⟨m.bO,0⟩→(List.map dt.cells s.aR).set m.slot.toNat x=List.map dt.cells (rp s m).aR:=fun x h=>by rw[h];exact List.map_set.symm
 refine ai fun I a w hs=>?_
 refine hs.alloc rfl ba df fun b4 I a w hs=>?_
 refine aJ fun I a w hs=>?_
 refine hs.o (.c1 (wc ..)) fun hs=>hs.s fun hs=>nn<|wp_seq<|hs.dk ?_
 refine cq ?_
 refine .o (.c1 (pU ..)) ?_
 refine du ?_
 refine .q .T (.cl (we ..)) ?_
 refine cq ?_
 refine .q .T (.cl (we ..)) ?_
 refine du ?_
 refine .nil ?_
 intro I a w hs
 refine aG<|wp_seq<|hs.dk ?_
 refine de ?_
 refine .o (.c1 (Df _ hg.site)) ?_
 refine cq ?_
 refine .nil ?_
 intro I a w hs
 refine yj fun I a w hs=>?_
 refine hs.q .T (.cl (uH s m.key DX)) fun hs=>?_
 refine ai fun I a w hs=>?_
 refine nn ?_
 refine hs.cd (fun ae=>?_) fun ae=>?_
 ·skip
  refine ai fun I a w hs=>?_
  refine hs.o (.c2 (Uy s m hg hm (zS ae).2)) fun hs=>?_
  refine aJ fun I a w hs=>?_
  refine nn<|wp_ret<|bh<|aE ?_
  refine hs.ret rfl (.cons (.s 0 ba rfl rfl (by first|rfl|assumption)) (.cons (by first|exact .t rfl|exact .nil rfl) aU.nil)) ?_
  exact(by rw[nX (zS ae).1];rfl)
 ·skip
  refine yj fun I a w hs=>?_
  refine hs.q .T (.cl (uH s m.key DX)) fun hs=>?_
  refine ai fun I a w hs=>?_
  refine nn ?_
  refine hs.cd (fun ah=>?_) fun ah=>?_
  ·skip
   refine ai fun I a w hs=>?_
   refine hs.o (.c2 (Un s m hg (zS ah).2)) fun hs=>?_
   refine aJ fun I a w hs=>?_
   refine nn<|wp_ret<|bh<|aE ?_
   refine hs.ret rfl (.cons (.s 0 ba rfl rfl (by first|rfl|assumption)) (.cons (by first|exact .t rfl|exact .nil rfl) aU.nil)) ?_
   exact(by rw[nY (zS ah).1];rfl)
  ·skip
   refine dq fun I a w hs=>?_
   refine nn ?_
   refine hs.cd (fun aj=>?_) fun aj=>?_
   ·skip
    refine ai fun I a w hs=>?_
    refine hs.o (.c2 (Uc s m hg hm (K5 aj).2)) fun hs=>?_
    refine aJ fun I a w hs=>?_
    refine nn<|wp_ret<|bh<|aE ?_
    refine hs.ret rfl (.cons (.s 0 ba rfl rfl (by first|rfl|assumption)) (.cons (by first|exact .t rfl|exact .nil rfl) aU.nil)) ?_
    exact(by rw[nZ (K5 aj).1];rfl)
   ·skip
    refine kq fun I a w hs=>?_
    refine hs.q .T (.cl (uH s m.key DX)) fun hs=>?_
    refine ai fun I a w hs=>?_
    refine nn ?_
    refine hs.cd (fun aI=>?_) fun aI=>?_
    ·skip
     refine az fun I a w hs=>?_
     refine hs.cW [] (wS s gI) (aw .tt aP) rfl (by decide) rfl fun⟨vS,vV,vW,vO,vK⟩ I a w zT hs=>?_
     refine hs.alloc rfl ba df fun b9 I a w hs=>?_
     refine aB fun I a w hs=>?_
     refine hs.o (lQ (aw .tt aP)) fun hs=>?_
     refine hs.cW [4,0] (Dm vO s.aH (fun d=>decide (d=⟨m.key,m.aA⟩)) _ (Own.box b4 44 [AV.val (.int .i64 0),AV.val (.bool false),AV.rows 2 [],AV.rows 7 [],AV.rows 7 [],AV.rows 3 [],AV.rows 3 []]) (by have:=gB hg.aH;omega) (fun d hd=>mE.frame (Fn.val (fC:=[AV.ptr m.cells]) (UF m d)))) (aw .r (aw .tt aP)) rfl (by decide) rfl fun acV I a w acW hs=>?_
     refine hs.o .fv fun hs=>?_
     try have acX:=hs.dS 4 rfl
     refine hs.s1 6 fun hs=>?_
     refine wpList_nil ?_
     obtain⟨I,hs⟩:=hs.fu 1 2 6
     obtain⟨I,hs⟩:=hs.fu 2 3 6
     obtain⟨I,hs⟩:=hs.fu 3 4 6
     obtain⟨I,hs⟩:=hs.fu 4 5 6
     obtain⟨I,hs⟩:=hs.fu 5 6 6
     have hs:=hs.nf
     refine aB fun I a w hs=>?_
     refine nn<|wp_ret<|bh<|aE ?_
     refine hs.ret rfl (.cons (.s 0 ba rfl rfl (by first|rfl|assumption)) (.cons (.nil (sz:=15) rfl) aU.nil)) ?_
     exact(by rw[UM hg aI];rfl)
    ·skip
     refine nz fun I a w hs=>?_
     refine hs.q .T (.bd eV (.k (.t aZ.nil (h:=.ag)) (h:=.ag))) fun hs=>?_
     refine hs.q .T (.cl (oC s.aq ⟨m.key,m.aA⟩)) fun hs=>?_
     refine aB fun I a w hs=>?_
     refine nn ?_
     refine hs.cd (fun aL=>?_) fun aL=>?_
     ·skip
      refine wp_seq ?_
      refine hs.dp 9 (by kernel_rfl) (by kernel_rfl) (by kernel_rfl) ?_
      simp only[List.take_succ_cons,List.take_zero,List.drop_succ_cons,List.drop_zero]
      refine jS ?_
      refine .o (.bd dB (.k (.k (.t aZ.nil)))) ?_
      refine .o (.c3 (qu s m ⟨8,0,0,0,m.key,m.aA,0,false,[],0,0,[],[],[]⟩ (td ..)))<|.nil ?_
      intro I a w hs
      refine ai fun I a w hs=>?_
      refine nn<|wp_ret<|bh<|aE ?_
      refine hs.ret rfl (.cons (.s 0 ba rfl rfl (by first|rfl|assumption)) (.cons (by first|exact .t rfl|exact .nil rfl) aU.nil)) ?_
      exact(by rw[UG aL];rfl)
     ·skip
      refine pS fun I a w hs=>?_
      refine hs.q .T (.bd eV (.k (.t aZ.nil (h:=.ag)) (h:=.ag))) fun hs=>?_
      refine hs.q .T (.cl (Sh s ⟨m.key,m.aA⟩)) fun hs=>?_
      refine gi fun I a w hs=>?_
      refine nn ?_
      refine hs.cd (fun bf=>?_) fun bf=>?_
      ·skip
       refine az fun I a w hs=>?_
       refine hs.o (.c1 (qk s gI)) fun hs=>hs.alloc rfl ba df fun kb I a w hs=>?_
       refine dq fun I a w hs=>?_
       refine hs.o (.bd eV (.k (.t aZ.nil))) fun hs=>?_
       refine hs.o (cI (Dg s.bq ⟨m.key,m.aA⟩ (by have:=cH.bq;omega)) (aw .r (aw (.t rfl) aP))) fun hs=>?_
       refine aB fun I a w hs=>?_
       refine hs.o (cI (uM {s with bq:=dV s.bq ⟨m.key,m.aA⟩} (cH.IV (by simp only[B] at bf;omega)) (gB hg.aH)) (aw (.t rfl) aP)) fun hs=>?_
       refine ai fun I a w hs=>?_
       refine nn<|wp_ret<|bh<|aE ?_
       refine hs.ret rfl (.cons (.s 0 ba rfl rfl (by first|rfl|assumption)) (.cons (.nil (sz:=15) rfl) aU.nil)) ?_
       exact(by rw[UH bf];rfl)
      ·skip
       refine pS fun I a w hs=>?_
       refine nn ?_
       refine hs.cd (fun aX=>?_) fun aX=>?_
       ·skip
        refine ai fun I a w hs=>?_
        refine hs.o (.c2 (Ud s m hg hm (K6 aX).2)) fun hs=>?_
        refine aJ fun I a w hs=>?_
        refine nn<|wp_ret<|bh<|aE ?_
        refine hs.ret rfl (.cons (.s 0 ba rfl rfl (by first|rfl|assumption)) (.cons (by first|exact .t rfl|exact .nil rfl) aU.nil)) ?_
        exact(by rw[n3 (K6 aX).1];rfl)
       ·skip
        refine wp_seq<|hs.dk ?_
        refine OC ?_
        refine .q .T (.bd lZ (.k (.k aZ.nil) (h:=.ag))) ?_
        refine .q .T (lf [_,_] [_,_] G5 rfl rfl .ag .ag) ?_
        refine cq ?_
        refine .nil ?_
        intro I a w hs
        refine aG ?_
        refine hs.cd (fun bU=>?_) fun bU=>?_
        ·skip
         refine aB fun I a w hs=>?_
         refine hs.cW [] (Kf s m.slot gI) (aw .tt (aw .tt aP)) rfl (by decide) rfl fun vS I a w acY hs=>?_
         refine hs.alloc rfl ba df fun kd I a w hs=>?_
         refine hs.sb 2 fun hs=>?_
         refine nn<|wp_seq ?_
         obtain⟨bS,cS,rfl⟩:=hs.g8 1 rfl (by rw[List.length_map];omega)
         refine aJ fun I a w hs=>?_
         refine hs.o (gv ea dz .tt .tt (fun _=>by simp only[List.length_map];omega)) fun hs=>?_
         refine hs.o .fv fun hs=>?_
         refine hs.tM (j:=1) 1 fT .tt .c (by first|exact iY rfl|exact jj|exact jk|exact jl|assumption) rfl (by exact ek (by omega)) rfl rfl fun a w hs=>?_
         refine nn<|wp_seq ?_
         rw[e9] at hs
         rotate_left
         ·exact UI bU
         obtain⟨I,hs⟩:=hs.fu 1 2 2
         refine az fun I a w hs=>?_
         refine hs.o (.c1 (uM (rp s m) (cH.gone m) (Nat.le_trans (List.length_filter_le ..) (gB hg.aH)))) fun hs=>?_
         refine ai fun I a w hs=>?_
         refine nn<|wp_ret<|bh<|aE ?_
         refine hs.ret rfl (.cons (.s 0 ba rfl rfl (by first|rfl|assumption)) (.cons (.nil (sz:=15) rfl) aU.nil)) ?_
         exact(by rw[UJ bU];rfl)
        ·skip
         refine aB fun I a w hs=>?_
         refine nn<|wp_ret ?_
         refine hs.ret rfl (.cons (.s 0 ba rfl rfl (by first|rfl|assumption)) (.cons (.nil (sz:=15) rfl) aU.nil)) ?_
         exact(by rw[UN hm ae ah aj aI aL bf aX bU];rfl)
end Go.Proofs.YtoeioeimmfpefaaGreat
