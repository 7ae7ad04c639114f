/- Part 30: rules of the proofs, contracts of functions, plain facts. -/
import Derived.Test.YtoeioeimmfpefaaGreatP28
set_option linter.unusedVariables false
set_option linter.unusedSimpArgs false
set_option maxRecDepth 100000
set_option maxHeartbeats 4000000
namespace Go.Proofs.YtoeioeimmfpefaaGreat
open Go Go.RowKit
attribute [local irreducible] wpList Code.wp Ok
theorem JG (s:Server) (v:aK) (h1:cg s.aq=true) (h2:cg s.waits=true):(!(iQ s.aq ⟨v.key,v.aA⟩).isSome&&!(iQ s.waits ⟨v.key,v.aA⟩).isSome)=decide (placeOf s.aq v.bH<0∧placeOf s.waits v.bH<0):=by
 rw[ub h1,ub h2,Bool.eq_iff_iff]
 show _↔decide (placeOf s.aq ⟨v.key,v.aA⟩<0∧placeOf s.waits ⟨v.key,v.aA⟩<0)=true
 simp
theorem JH (s:Server) (m:aD):(!iG (iT s m)||!gV s.aq (fJ s m)||decide (80≤(s.aH.length:Int)))=!(iG (iT s m)&&gV s.aq (fJ s m)&&decide (s.aH.length<80)):=by
 have e:decide (80≤(s.aH.length:Int))=!decide (s.aH.length<80):=by rw[Bool.eq_iff_iff];simp;omega
 rw[e];simp
theorem zB {s:Server} {m:aD} (h:(fG s.aq m.key).isSome=true):m.aS.map ar.aA++[((fG s.aq m.key).getD default).aA]=iT s m:=by
 obtain⟨v,hv⟩:=Option.isSome_iff_exists.1 h
 unfold iT;rw[hv];rfl
theorem zC {s:Server} {m:aD} (h:(fG s.aq m.key).isSome=false):m.aS.map ar.aA=iT s m:=by
 have e:fG s.aq m.key=none:=by cases hh:fG s.aq m.key;rfl;rw[hh] at h;cases h
 unfold iT;rw[e];simp
theorem Dn {s:Server} {m:aD} (h:bw s) (hm:bN m=true) (ho:eW s m.key=true) (hk:(iG (iT s m)&&gV s.aq (fJ s m)&&decide (s.aH.length<80))=true):bw {s with aq:=eE s.aq (fJ s m),aH:=dV s.aH (fJ s m).bH}:=by
 simp only[Bool.and_eq_true,decide_eq_true_eq] at hk
 obtain⟨a1,a2,a3⟩:=C0 h hm hk.1.1
 exact h.put hk.1.2 (by rw[a1]) (by show eh s m.key≠0;rw[(zf ho).2];omega) hk.2
theorem SE {s:Server} {m:aD} (h:(aQ m.bc 10 11&&decide (1≤m.call)&&eW s m.key)=false):gE s m=(s,[]):=by unfold gE;rw[h];rfl
theorem JI {s:Server} {m:aD} (h:(aQ m.bc 10 11&&decide (1≤m.call)&&eW s m.key)=true) (hv:(jF s m.key (m.bc-10) m.call).isSome=true):gE s m=(s,[kH s m ((jF s m.key (m.bc-10) m.call).getD default).aA]):=by
 obtain⟨v,hv⟩:=Option.isSome_iff_exists.1 hv
 unfold gE;rw[h,hv];rfl
theorem Dp {s:Server} {m:aD} (h:(aQ m.bc 10 11&&decide (1≤m.call)&&eW s m.key)=true) (hv:(jF s m.key (m.bc-10) m.call).isSome=false) (hf:(iG (iT s m)&&gV s.aq (fJ s m)&&decide (s.aH.length<80))=false):gE s m=(s,[]):=by
 have hv:=xb (o:=jF s m.key (m.bc-10) m.call) (by rw[hv];rfl)
 unfold gE;rw[h,hv];dsimp only;rw[hf];rfl
theorem JJ {s:Server} {m:aD} (h:(aQ m.bc 10 11&&decide (1≤m.call)&&eW s m.key)=true) (hv:(jF s m.key (m.bc-10) m.call).isSome=false) (hf:(iG (iT s m)&&gV s.aq (fJ s m)&&decide (s.aH.length<80))=true):
 gE s m=(fX {s with aq:=eE s.aq (fJ s m),aH:=dV s.aH (fJ s m).bH},[kH s m (fJ s m).aA]):=by
 have hv:=xb (o:=jF s m.key (m.bc-10) m.call) (by rw[hv];rfl)
 unfold gE;rw[h,hv];dsimp only;rw[hf];rfl
theorem JK (s:Server) (m:aD):((m.bc !=eG s.site)||decide (m.bO<1))=!((m.bc==eG s.site)&&decide (1≤m.bO)):=by
 have e:decide (m.bO<1)=!decide (1≤m.bO):=by rw[Bool.eq_iff_iff];simp
 rw[e];simp[bne]
theorem JL (s:Server) (m:aD):(decide (80<((dX s m.slot).aq.length:Int)+m.aq.length)||decide (80<((dX s m.slot).waits.length:Int)+m.waits.length)||decide (80<((dX s m.slot).aH.length:Int)+m.aH.length))=!qh s m:=by
 have e:∀a b:Nat,decide (80<(a:Int)+b)=!decide (a+b≤80):=fun a b=>by rw[Bool.eq_iff_iff];simp;omega
 unfold qh
 rw[e,e,e];simp
theorem SF {l:List aK} {v:aK} (hv:et v=true) (hl:l.length<80):(if gV l v then eE l v else l)=iS l v:=by
 unfold gV iS
 rw[hv]
 by_cases hp:placeOf l v.bH<0
 ·simp[hp,hl]
 ·simp[hp]
theorem SG {l:List aK} {v:aK} (hc:cg l=true) (hv:et v=true) (hl:l.length<80):cg (iS l v)=true:=by
 unfold iS
 split
 ·rename_i hp;exact y9 hc hv hp hl
 ·exact hc
theorem zD {l vs:List aK} {k:Nat} (h:k<vs.length):hZ l (vs.take (k+1))=iS (hZ l (vs.take k)) (ab vs k):=QE h
theorem Dq (l vs:List aK) (k:Nat):(hZ l (vs.take k)).length≤l.length+k:=by
 have h1:=Ix (vs.take k) l
 have h2:(vs.take k).length≤k:=by simp;omega
 unfold hZ;omega
theorem JM {l ds:List ar} {k:Nat} (h:k<ds.length):(ds.take (k+1)).foldl dV l=dV ((ds.take k).foldl dV l) (ab ds k):=by
 rw[dL h,List.foldl_append];rfl
theorem JN:∀(ds l:List ar),(ds.foldl dV l).length≤l.length+ds.length
 |[],l=>by simp
 |d::r,l=>by have h1:=JN r (dV l d);have h2:=IB l d;simp only[List.foldl_cons,List.length_cons];omega
theorem JO (l ds:List ar) (k:Nat):((ds.take k).foldl dV l).length≤l.length+k:=by
 have h1:=JN (ds.take k) l
 have h2:(ds.take k).length≤k:=by simp;omega
 omega
theorem Dr {s:Server} {m:aD} (h:qh s m=true):(dX s m.slot).aq.length+m.aq.length≤80∧(dX s m.slot).waits.length+m.waits.length≤80∧(dX s m.slot).aH.length+m.aH.length≤80:=by
 unfold qh at h;simp only[Bool.and_eq_true,decide_eq_true_eq] at h;exact⟨h.1.1,h.1.2,h.2⟩
theorem zE (s:Server) (m:aD):(!s.up||!bN m||(m.to !=s.site))=!(s.up&&bN m&&(m.to==s.site)):=by simp[bne]
set_option maxHeartbeats 4000000 in
theorem SH (s:Server) (m:aD) (hg:bw s) (hm:bN m=true):
 Fn Tryz.prog 182 [s.av,m.av] (AV.c9 [(gF s m).1.av,bj (gF s m).2]):=by
 refine Fn.intro 115 Tryz.func182 rfl Tryz.ntmps182 rfl (by kernel_rfl) (fun W I a hs=>?_)
 have al:=iw.2 hg
 have cH:=hg.ok
 have ju:=mo hm
 refine sr<|hs.box rfl .tt fun b2 I a w hs=>hs.o .bp fun hs=>hs.alloc rfl ba df fun b4 I a w hs=>hs.sc fun hs=>nn<|sr ?_
 refine hs.cT rfl dh cj (by decide) fun oH I a w hs=>?_
 obtain⟨I,hs⟩:=hs.fr 2 14
 refine hs.s fun hs=>nn<|wp_seq<|wp_seq<|hs.dk ?_
 refine cq ?_
 refine .o (.c1 (oA ..)) ?_
 refine de ?_
 refine .q .F (.cl (nC ..)) ?_
 refine cq ?_
 refine .q .F (.cl (nC ..)) ?_
 refine yl ?_
 refine .q .F (eZ (i:=0) cM bt .ag .c (fun hg=>by simp only[B] at hg;omega)) ?_
 refine cq ?_
 refine .q .F (.cl (CN _ _ al)) ?_
 refine eK ?_
 refine .q .F (eZ (i:=0) cM bt .ag .c (fun hg=>by simp only[B] at hg;omega)) ?_
 refine du ?_
 refine .q .F (.cl (nC ..)) ?_
 refine cq ?_
 refine .q .F (.cl (nC ..)) ?_
 refine cq ?_
 refine .nil ?_
 intro I a w hs
 refine aG ?_
 refine hs.cd (fun ae=>?_) fun ae=>?_
 ·rw[JC] at ae;replace ae:=nt ae
  refine aJ fun I a w hs=>?_
  refine nn<|wp_ret<|aE ?_
  refine hs.ret rfl (.cons (.s 1 ba rfl rfl (by first|rfl|assumption)) (.cons (by first|exact .t rfl|exact .nil rfl) aU.nil)) ?_
  exact(by unfold gF;rw[ae];rfl)
 ·rw[JC] at ae;replace ae:=nf ae
  refine ai fun I a w hs=>?_
  refine hs.o (eZ (i:=0) cM bt .tt .c (fun _=>by have:=(zh ae).2.2.1;omega)) fun hs=>?_
  refine hs.o .la fun hs=>?_
  refine hs.alloc rfl bt dO fun b7 I a w hs=>?_
  refine hs.sb 3 fun hs=>?_
  obtain⟨I,hs⟩:=hs.fb 3 7
  refine cx fun I a w hs=>?_
  refine hs.o (.cl (pX ..)) fun hs=>?_
  refine aB fun I a w hs=>?_
  refine hs.alloc rfl bt dO fun b8 I a w hs=>?_
  refine hs.sb 4 fun hs=>?_
  obtain⟨I,hs⟩:=hs.fb 4 8
  refine dq fun I a w hs=>?_
  refine hs.o (.cl (pX ..)) fun hs=>?_
  refine aB fun I a w hs=>?_
  refine hs.alloc rfl bt dO fun kb I a w hs=>?_
  refine hs.sb 5 fun hs=>?_
  obtain⟨I,hs⟩:=hs.fb 5 10
  refine dq fun I a w hs=>?_
  refine nn ?_
  refine hs.cd (fun ah=>?_) fun ah=>?_
  ·rw[JG s (ab m.aq 0) cH.aq cH.waits,decide_eq_true_eq] at ah
   refine aB fun I a w hs=>?_
   refine hs.o (.cl (y7 _ _ cH.waits)) fun hs=>?_
   refine dq fun I a w hs=>?_
   refine nn ?_
   refine hs.cd (fun aj=>?_) fun aj=>?_
   ·simp only[B] at aj
    refine aJ fun I a w hs=>?_
    refine nn<|wp_ret<|aE<|aE ?_
    refine hs.ret rfl (.cons (.s 1 ba rfl rfl (by first|rfl|assumption)) (.cons (by first|exact .t rfl|exact .nil rfl) aU.nil)) ?_
    exact(by unfold gF;rw[ae,if_pos rfl];dsimp only;rw[if_pos ah,aj];rfl)
   ·simp only[B] at aj
    refine aB fun I a w hs=>?_
    refine wpList_nil ?_
    rw[if_pos aj] at hs
    refine az fun I a w hs=>?_
    refine hs.o (.c1 (uB {s with waits:=eE s.waits (ab m.aq 0)} (cH.CS aj ah.1))) fun hs=>?_
    refine hs.sb 0 fun hs=>?_
    refine nn<|wp_seq ?_
    refine hs.eT [([0],none),([],none),([0],none),([],none),([],none),([],none),([],none),([],none),([],none),([],none),([],none),([1],some (1,[])),([],none)] (by kernel_rfl) (by kernel_rfl) rfl ?_
    refine .r [0] (.ls 0) ?_
    refine bz ?_
    refine .r [0] (.lb 0) ?_
    refine fP ?_
    refine .o (.bd dB (.k (.k (.k (.k (.t aZ.nil)))))) ?_
    refine .o (.li [({kK s m (ab m.aq 0) with bc:=(fX {s with waits:=eE s.waits (ab m.aq 0)}).site}).cells] fF (.u .nil)) ?_
    refine aV.gz (x:=AV.any) 1 (fun F W0 I0 I a w Q hs kk=>hs.sb 1 fun hs=>kk _ _ _ hs) ?_
    refine bz ?_
    refine .nil ?_
    intro I a w hs
    refine aG<|wp_ret ?_
    refine hs.ret rfl (.cons (.s 1 ba rfl rfl (by first|rfl|assumption)) (.cons (by first|exact .t rfl|exact .nil rfl) aU.nil)) ?_
    exact(by unfold gF;rw[ae,if_pos rfl];dsimp only;rw[if_pos ah,aj,(w5 _).1];rfl)
  ·rw[JG s (ab m.aq 0) cH.aq cH.waits,decide_eq_false_iff_not] at ah
   refine az fun I a w hs=>?_
   refine hs.o (.c1 (uB s cH)) fun hs=>?_
   refine hs.sb 0 fun hs=>?_
   refine nn<|wp_seq ?_
   refine hs.eT [([0],none),([],none),([0],none),([],none),([],none),([],none),([],none),([],none),([],none),([],none),([],none),([1],some (1,[])),([],none)] (by kernel_rfl) (by kernel_rfl) rfl ?_
   refine .r [0] (.ls 0) ?_
   refine bz ?_
   refine .r [0] (.lb 0) ?_
   refine fP ?_
   refine .o (.bd dB (.k (.k (.k (.k (.t aZ.nil)))))) ?_
   refine .o (.li [({kK s m (ab m.aq 0) with bc:=(fX s).site}).cells] fF (.u .nil)) ?_
   refine aV.gz (x:=AV.any) 1 (fun F W0 I0 I a w Q hs kk=>hs.sb 1 fun hs=>kk _ _ _ hs) ?_
   refine bz ?_
   refine .nil ?_
   intro I a w hs
   refine aG<|wp_ret ?_
   refine hs.ret rfl (.cons (.s 1 ba rfl rfl (by first|rfl|assumption)) (.cons (by first|exact .t rfl|exact .nil rfl) aU.nil)) ?_
   exact(by unfold gF;rw[ae,if_pos rfl];dsimp only;rw[if_neg ah,(w5 _).1];rfl)
set_option maxHeartbeats 4000000 in
theorem SI (s:Server) (m:aD) (hg:bw s) (hm:bN m=true):
 Fn Tryz.prog 180 [s.av,m.av] (AV.c9 [(gE s m).1.av,bj (gE s m).2]):=by
 refine Fn.intro 150 Tryz.func180 rfl Tryz.ntmps180 rfl (by kernel_rfl) (fun W I a hs=>?_)
 have al:=iw.2 hg
 have cH:=hg.ok
 have ju:=mo hm
 have wB:=gm ju.2.2.2
 have JP:aQ m.bc 10 11=true∨True:=.inr trivial
 have lens:m.aS.length≤9223372036854775807∧m.aq.length≤9223372036854775807∧m.waits.length≤9223372036854775807∧m.aH.length≤9223372036854775807:=by
  obtain⟨cs,_,hc⟩:=hs.env 1 _ rfl
  obtain⟨u0,_,h0,_⟩:=hc.get (i:=9) rfl
  obtain⟨u1,_,h1,_⟩:=hc.get (i:=12) rfl
  obtain⟨u2,_,h2,_⟩:=hc.get (i:=13) rfl
  obtain⟨u3,_,h3,_⟩:=hc.get (i:=14) rfl
  exact⟨bL h0,bL h1,bL h2,bL h3⟩
 refine sr<|hs.box rfl .tt fun b2 I a w hs=>hs.o .bp fun hs=>hs.alloc rfl ba df fun b4 I a w hs=>hs.sc fun hs=>nn<|sr ?_
 refine hs.cT rfl dh cj (by decide) fun H5 I a w hs=>?_
 obtain⟨I,hs⟩:=hs.fr 2 18
 refine aB fun I a w hs=>?_
 refine hs.o (EV .tt .c (fun _=>by have h9:=ry hm;omega)) fun hs=>?_
 refine aB fun I a w hs=>?_
 refine hs.o (.c1 (wg ..)) fun hs=>?_
 refine kq fun I a w hs=>?_
 refine hs.q .F (.cl (CN _ _ al)) fun hs=>?_
 refine ai fun I a w hs=>?_
 refine nn ?_
 refine hs.cd (fun ae=>?_) fun ae=>?_
 ·rw[zu s m] at ae;replace ae:=nt ae
  refine aJ fun I a w hs=>?_
  refine nn<|wp_ret<|aE ?_
  refine hs.ret rfl (.cons (.s 1 ba rfl rfl (by first|rfl|assumption)) (.cons (by first|exact .t rfl|exact .nil rfl) aU.nil)) ?_
  exact(by rw[SE ae];rfl)
 ·rw[zu s m] at ae;replace ae:=nf ae
  refine cx fun I a w hs=>?_
  refine hs.o (.cl (QT s m.key (m.bc-10) m.call)) fun hs=>?_
  refine aB fun I a w hs=>?_
  refine hs.alloc rfl bt dO fun b8 I a w hs=>?_
  refine aJ fun I a w hs=>?_
  refine nn ?_
  refine hs.cd (fun ah=>?_) fun ah=>?_
  ·rw[Bool.not_eq_true'] at ah
   refine sr ?_
   refine hs.cT rfl v8 gj (by decide) fun SJ I a w hs=>?_
   refine ai fun I a w hs=>?_
   refine nn<|wp_block ?_
   refine St.lo (σ:=Nat×Value) (run 2 10 (run 16 53 [])) ⟨fun⟨k,v⟩=>[(11,AV.int k),(10,AV.val v)],fun⟨k,v⟩=>[Own.box b2 44 s.cells,Own.box b4 44 [AV.val (.int .i64 0),AV.val (.bool false),AV.rows 2 [],AV.rows 7 [],AV.rows 7 [],AV.rows 3 [],AV.rows 3 []],Own.gone,Own.box b8 100 ((jF s m.key (m.bc-10) m.call).getD default).cells,Own.row v 48 2 (((m.aS.take k).map ar.aA).map ct.cells)],fun⟨k,v⟩=>k≤m.aS.length⟩ (fun⟨k,v⟩=>m.aS.length-k) (0,.slice (some ⟨SJ,0,none⟩) 0 0) hs ?aN ?aO
   case aN=>exact Nat.zero_le _
   case aO=>
    rintro⟨k,v⟩ I a w al hs
    have hk:k≤m.aS.length:=al
    dsimp only at hs
    refine aW fun I a w hs=>?_
    refine nn ?_
    refine hs.cd (fun aj=>?_) fun aj=>?_
    ·try simp only[B] at aj
     refine dq fun I a w hs=>?_
     refine hs.o (.li [(ab m.aS k).aA.cells] yo (.u .nil)) fun hs=>?_
     refine hs.append 4 rfl v8 gj rfl .tt .r rfl (by simp only[List.length_map,List.length_cons,List.length_nil,List.length_take];omega) fun Ds a w hs=>?_
     refine aJ fun I a w hs=>?_
     refine nn ?_
     rw[ck,show(m.aS.take k).map ar.aA++[(ab m.aS k).aA]=(m.aS.take (k+1)).map ar.aA from by rw[dL aj,List.map_append];rfl] at hs
     exact hs.ag (k+1,Ds) (aj)
    ·try simp only[B] at aj
     refine wp_exit<|aF<|aF<|aY ?_
     refine aJ fun I a w hs=>?_
     refine hs.o (.cl (IK _ _ cH.aq)) fun hs=>?_
     refine aB fun I a w hs=>?_
     refine hs.alloc rfl bt dO fun sK I a w hs=>?_
     refine hs.sb 5 fun hs=>?_
     obtain⟨I,hs⟩:=hs.fb 5 12
     refine hs.s fun hs=>nn ?_
     refine St.cut (σ:=Value) (10::(run 6 77 [])) ⟨fun v=>[(10,AV.val v)],fun v=>[Own.box b2 44 s.cells,Own.box b4 44 [AV.val (.int .i64 0),AV.val (.bool false),AV.rows 2 [],AV.rows 7 [],AV.rows 7 [],AV.rows 3 [],AV.rows 3 []],Own.gone,Own.box b8 100 ((jF s m.key (m.bc-10) m.call).getD default).cells,Own.row v 48 2 ((iT s m).map ct.cells),Own.gone],fun v=>True⟩ hs ?SK ?SL
     case SK=>
      refine az fun I a w hs=>?_
      refine nn ?_
      refine hs.cd (fun aI=>?_) fun aI=>?_
      ·skip
       refine aB fun I a w hs=>?_
       refine hs.o (.li [((fG s.aq m.key).getD default).aA.cells] yo (.u .nil)) fun hs=>?_
       refine hs.append 4 rfl v8 gj rfl .tt .r rfl (by simp only[List.length_map,List.length_cons,List.length_nil,List.length_take];omega) fun Dt a w hs=>?_
       refine hs.s fun hs=>nn ?_
       first|rw[ck,show m.aS.take k=m.aS from List.take_of_length_le (by omega),zB aI] at hs|rw[show m.aS.take k=m.aS from List.take_of_length_le (by omega),zC aI] at hs
       exact hs.me Dt (by trivial)
      ·skip
       refine wp_skip<|aG ?_
       first|rw[ck,show m.aS.take k=m.aS from List.take_of_length_le (by omega),zB aI] at hs|rw[show m.aS.take k=m.aS from List.take_of_length_le (by omega),zC aI] at hs
       exact hs.me v (by trivial)
     case SL=>
      rintro v I a w al hs
      refine aB fun I a w hs=>?_
      obtain⟨I,hs⟩:=hs.fr 4 86
      refine hs.o (.cl (QR s.site (iT s m) hg.site (CZ hg hm))) fun hs=>?_
      refine aB fun I a w hs=>?_
      refine hs.alloc rfl gj iC fun oH I a w hs=>?_
      refine hs.sb 6 fun hs=>?_
      obtain⟨I,hs⟩:=hs.fb 6 14
      refine hs.s fun hs=>nn<|wp_seq ?_
      refine hs.dp 13 (by kernel_rfl) (by kernel_rfl) (by kernel_rfl) ?_
      simp only[List.take_succ_cons,List.take_zero,List.drop_succ_cons,List.drop_zero]
      refine mJ ?_
      refine .o (qP bA bk) ?_
      refine cq ?_
      refine .o (x8 bA bk rfl .tt .r (fun _=>by simp;omega)) ?_
      refine .o (.bd dO (.k (.t (.k (.k (.k (.k aZ.nil))))))) ?_
      refine .nil ?_
      intro I a w hs
      refine aJ fun I a w hs=>?_
      refine hs.o (.cl (y7 s.aq (fJ s m) cH.aq)) fun hs=>?_
      refine vZ fun I a w hs=>?_
      refine nn ?_
      refine hs.cd (fun aL=>?_) fun aL=>?_
      ·rw[JH s m] at aL;replace aL:=nt aL
       refine aJ fun I a w hs=>?_
       refine nn<|wp_ret<|aE<|aE ?_
       refine hs.ret rfl (.cons (.s 1 ba rfl rfl (by first|rfl|assumption)) (.cons (by first|exact .t rfl|exact .nil rfl) aU.nil)) ?_
       exact(by rw[Dp ae ah aL];rfl)
      ·rw[JH s m] at aL;replace aL:=nf aL
       refine aB fun I a w hs=>?_
       refine wpList_nil ?_
       rw[if_pos (by simp only[Bool.and_eq_true] at aL;exact aL.1.2)] at hs
       refine cx fun I a w hs=>?_
       refine hs.o (.bd eV (.k (.t aZ.nil))) fun hs=>?_
       refine hs.o (cI (CK s.aH (fJ s m).bH (by have:=gB hg.aH;omega)) (aw .r (aw (.t rfl) aP))) fun hs=>?_
       refine aB fun I a w hs=>?_
       refine hs.o (cI (uB {s with aq:=eE s.aq (fJ s m),aH:=dV s.aH (fJ s m).bH} (Dn hg hm (by simp only[Bool.and_eq_true] at ae;exact ae.2) aL).ok) (aw (.t rfl) aP)) fun hs=>?_
       refine hs.sb 0 fun hs=>?_
       refine nn<|wp_seq ?_
       refine hs.eT [([0],none),([],none),([0],none),([],none),([],none),([],none),([],none),([],none),([],none),([],none),([3],none),([],none),([],none),([1],some (1,[])),([],none)] (by kernel_rfl) (by kernel_rfl) rfl ?_
       refine .r [0] (.ls 0) ?_
       refine bz ?_
       refine .r [0] (.lb 0) ?_
       refine jS ?_
       refine .r [3] (.ls 3) ?_
       refine .o (.bd dB (.k (.k (.k (.k (.k (.t aZ.nil))))))) ?_
       refine .o (.li [({kH s m (fJ s m).aA with bc:=(fX {s with aq:=eE s.aq (fJ s m),aH:=dV s.aH (fJ s m).bH}).site}).cells] fF (.u .nil)) ?_
       refine aV.gz (x:=AV.any) 1 (fun F W0 I0 I a w Q hs kk=>hs.sb 1 fun hs=>kk _ _ _ hs) ?_
       refine bz ?_
       refine .nil ?_
       intro I a w hs
       refine aG<|wp_ret ?_
       refine hs.ret rfl (.cons (.s 1 ba rfl rfl (by first|rfl|assumption)) (.cons (by first|exact .t rfl|exact .nil rfl) aU.nil)) ?_
       exact(by rw[JJ ae ah aL,(w5 _).1];rfl)
  ·rw[Bool.not_eq_false'] at ah
   refine wp_skip<|aG<|wp_seq ?_
   refine hs.eT [([0],none),([],none),([0],none),([],none),([],none),([],none),([],none),([],none),([],none),([],none),([3],none),([],none),([],none),([1],some (1,[])),([],none)] (by kernel_rfl) (by kernel_rfl) rfl ?_
   refine .r [0] (.ls 0) ?_
   refine bz ?_
   refine .r [0] (.lb 0) ?_
   refine jS ?_
   refine .r [3] (.ls 3) ?_
   refine .o (.bd dB (.k (.k (.k (.k (.k (.t aZ.nil))))))) ?_
   refine .o (.li [(kH s m ((jF s m.key (m.bc-10) m.call).getD default).aA).cells] fF (.u .nil)) ?_
   refine aV.gz (x:=AV.any) 1 (fun F W0 I0 I a w Q hs kk=>hs.sb 1 fun hs=>kk _ _ _ hs) ?_
   refine bz ?_
   refine .nil ?_
   intro I a w hs
   refine aG<|wp_ret ?_
   refine hs.ret rfl (.cons (.s 1 ba rfl rfl (by first|rfl|assumption)) (.cons (by first|exact .t rfl|exact .nil rfl) aU.nil)) ?_
   exact(by rw[JI ae ah];rfl)
def s9 (s:Server) (m:aD) (i j k:Nat):Server:=
 {dX s m.slot with aR:=(dX s m.slot).aR.set m.slot.toNat ⟨m.bO,1⟩,aq:=hZ (dX s m.slot).aq (m.aq.take i),waits:=hZ (dX s m.slot).waits (m.waits.take j),aH:=(m.aH.take k).foldl dV (dX s m.slot).aH}
theorem zF (s:Server) (m:aD) {i j k:Nat} (hi:m.aq.length≤i) (hj:m.waits.length≤j) (hk:m.aH.length≤k):s9 s m i j k=qg s m:=by
 unfold s9 qg
 rw[List.take_of_length_le hi,List.take_of_length_le hj,List.take_of_length_le hk]
theorem JQ {l vs:List aK} (hl:cg l=true) (hv:cg vs=true) (hn:l.length+vs.length≤80):∀k,k≤vs.length→cg (hZ l (vs.take k))=true
 |0,_=>by simpa[hZ] using hl
 |k+1,hk=>by
  have h1:=JQ hl hv hn k (by omega)
  have h2:=Dq l vs k
  rw[zD (by omega)]
  exact SG h1 (gA hv _ (bx (by omega))) (by omega)
theorem JR {l vs:List aK} {k:Nat} (hl:cg l=true) (hv:cg vs=true) (hn:l.length+vs.length≤80) (hk:k<vs.length):Fn Tryz.prog 153 [cv (hZ l (vs.take k)),(ab vs k).av] (AV.c9 [cv (hZ l (vs.take (k+1))),AV.bool (gV (hZ l (vs.take k)) (ab vs k))]):=by
 have h2:=Dq l vs k
 have:=y7 (hZ l (vs.take k)) (ab vs k) (JQ hl hv hn k (by omega))
 rwa[SF (gA hv _ (bx hk)) (by omega),←zD hk] at this
theorem SM {l ds:List ar} {k:Nat} (hn:l.length+ds.length≤80) (hk:k<ds.length):Fn Tryz.prog 211 [bl ((ds.take k).foldl dV l),(ab ds k).av] (bl ((ds.take (k+1)).foldl dV l)):=by
 have h2:=JO l ds k
 have:=CK ((ds.take k).foldl dV l) (ab ds k) (by omega)
 rwa[←JM hk] at this
theorem SN {s:Server} {m:aD} (h:((m.bc==eG s.site)&&decide (1≤m.bO))=false):gp s m=(s,[]):=by unfold gp;rw[h];rfl
theorem JS {s:Server} {m:aD} (h:((m.bc==eG s.site)&&decide (1≤m.bO))=true) (h2:m.bO≤(ab s.aR m.slot.toNat).bO):gp s m=(s,[mh s m]):=by unfold gp;rw[h,if_pos rfl,if_pos h2]
theorem Du {s:Server} {m:aD} (h:((m.bc==eG s.site)&&decide (1≤m.bO))=true) (h2:¬m.bO≤(ab s.aR m.slot.toNat).bO) (h3:(qh s m&&fV (qg s m))=false):gp s m=(s,[]):=by unfold gp;rw[h,if_pos rfl,if_neg h2,h3];rfl
theorem JT {s:Server} {m:aD} (h:((m.bc==eG s.site)&&decide (1≤m.bO))=true) (h2:¬m.bO≤(ab s.aR m.slot.toNat).bO) (h3:(qh s m&&fV (qg s m))=true):gp s m=(fX (qg s m),[mh s m]):=by unfold gp;rw[h,if_pos rfl,if_neg h2,h3];rfl
set_option maxHeartbeats 4000000 in
theorem SO (s:Server) (m:aD) (hg:bw s) (hm:bN m=true):
 Fn Tryz.prog 186 [s.av,m.av] (AV.c9 [(gp s m).1.av,bj (gp s m).2]):=by
 refine Fn.intro 158 Tryz.func186 rfl Tryz.ntmps186 rfl (by kernel_rfl) (fun W I a hs=>?_)
 have al:=iw.2 hg
 have cH:=hg.ok
 have ju:=mo hm
 have rD:=zc hm
 have h3:=hg.aR
 have h4:(dX s m.slot).aR.length=3:=h3
 have lS:=cH.drop m.slot
 have SP:=gn lS.aq
 have hmv:=gn ju.1
 have hmw:=gn ju.2.1
 have GK:=gB ju.2.2.1
 have SQ:=gn lS.waits
 have SR:=gB (hg.dX m.slot).aH
 have lens:m.aS.length≤9223372036854775807∧m.aq.length≤9223372036854775807∧m.waits.length≤9223372036854775807∧m.aH.length≤9223372036854775807:=by
  obtain⟨cs,_,hc⟩:=hs.env 1 _ rfl
  obtain⟨u0,_,h0,_⟩:=hc.get (i:=9) rfl
  obtain⟨u1,_,h1,_⟩:=hc.get (i:=12) rfl
  obtain⟨u2,_,h2,_⟩:=hc.get (i:=13) rfl
  obtain⟨u3,_,h3,_⟩:=hc.get (i:=14) rfl
  exact⟨bL h0,bL h1,bL h2,bL h3⟩
 have gf:=gB hg.aH
 have e9:∀x,x=dt.cells ⟨m.bO,1⟩→(List.map dt.cells (dX s m.slot).aR).set m.slot.toNat x=List.map dt.cells (s9 s m 0 0 0).aR:=fun x h=>by rw[h];exact List.map_set.symm
 refine ai fun I a w hs=>?_
 refine hs.alloc rfl ba df fun b4 I a w hs=>hs.sc fun hs=>nn<|sr ?_
 refine hs.cT rfl dh cj (by decide) fun sK I a w hs=>?_
 obtain⟨I,hs⟩:=hs.fr 1 12
 refine hs.s fun hs=>nn<|wp_seq<|wp_seq<|hs.dk ?_
 refine de ?_
 refine .o (.c1 (uw _ hg.site)) ?_
 refine fP ?_
 refine .nil ?_
 intro I a w hs
 refine aG ?_
 refine hs.cd (fun ae=>?_) fun ae=>?_
 ·rw[JK s m] at ae;replace ae:=nt ae
  refine aJ fun I a w hs=>?_
  refine nn<|wp_ret<|aE ?_
  refine hs.ret rfl (.cons (.s 0 ba rfl rfl (by first|rfl|assumption)) (.cons (by first|exact .t rfl|exact .nil rfl) aU.nil)) ?_
  exact(by rw[SN ae];rfl)
 ·rw[JK s m] at ae;replace ae:=nf ae
  refine gi fun I a w hs=>?_
  refine hs.o (.bd dB (.k (.k (.k (.k (.k aZ.nil)))))) fun hs=>?_
  refine hs.alloc rfl cj dB fun b7 I a w hs=>?_
  refine hs.sb 2 fun hs=>?_
  obtain⟨I,hs⟩:=hs.fb 2 7
  refine az fun I a w hs=>?_
  refine aG ?_
  refine hs.cd (fun ah=>?_) fun ah=>?_
  ·skip
   refine wp_seq ?_
   refine hs.eT [([],none),([],none),([],none),([0],some (0,[])),([],none)] (by kernel_rfl) (by kernel_rfl) rfl ?_
   refine cq ?_
   refine .o (.li [(mh s m).cells] fF (.u .nil)) ?_
   refine aV.gz (x:=AV.any) 0 (fun F W0 I0 I a w Q hs kk=>hs.sb 0 fun hs=>kk _ _ _ hs) ?_
   refine bz ?_
   refine .nil ?_
   intro I a w hs
   refine aG<|wp_ret<|aE ?_
   refine hs.ret rfl (.cons (.s 0 ba rfl rfl (by first|rfl|assumption)) (.cons (by first|exact .t rfl|exact .nil rfl) aU.nil)) ?_
   exact(by rw[JS ae (by simpa using ah)];rfl)
  ·skip
   refine aB fun I a w hs=>?_
   refine hs.o (cI (JD s m.slot cH.aq cH.waits (by omega)) (aw (.t rfl) (aw (.t rfl) aP))) fun hs=>?_
   refine hs.alloc rfl ba df fun b8 I a w hs=>?_
   refine Oz fun I a w hs=>?_
   refine nn ?_
   refine hs.cd (fun aj=>?_) fun aj=>?_
   ·rw[JL s m] at aj;replace aj:=nt aj
    refine aJ fun I a w hs=>?_
    refine nn<|wp_ret<|aE ?_
    refine hs.ret rfl (.cons (.s 0 ba rfl rfl (by first|rfl|assumption)) (.cons (by first|exact .t rfl|exact .nil rfl) aU.nil)) ?_
    exact(by rw[Du ae (by simpa using ah) (by rw[aj];rfl)];rfl)
   ·rw[JL s m] at aj;replace aj:=nf aj
    refine wp_skip<|aG<|sr ?_
    refine hs.cT rfl ea dz (by decide) fun b82 I a w hs=>?_
    refine ai fun I a w hs=>?_
    refine hs.append 4 rfl ea dz rfl .tt .r rfl (by simp;omega) fun v85 a w hs=>?_
    refine hs.o .fv fun hs=>?_
    try have acB:=hs.dS 4 rfl
    refine hs.s1 3 fun hs=>?_
    refine nn<|wp_seq ?_
    simp only[List.nil_append] at hs
    obtain⟨b85,acD,SS⟩:=hs.g8 4 rfl (by simp only[List.length_map];omega)
    subst SS
    refine cx fun I a w hs=>?_
    refine hs.o (.bd lZ (.k (.k aZ.nil))) fun hs=>?_
    refine hs.o (gv ea dz .tt .tt (fun _=>by simp only[List.length_map];omega)) fun hs=>?_
    refine hs.jx 4 dz .tt .tt rfl (by exact ek (by omega)) rfl rfl fun a w hs=>?_
    refine nn<|wp_seq<|wp_seq ?_
    rw[e9] at hs
    rotate_left
    ·rfl
    obtain⟨I,hs⟩:=hs.fu 4 2 3
    refine az fun I a w hs=>?_
    refine nn<|wp_block ?_
    refine St.lo (σ:=Nat) (9::(run 19 95 [])) ⟨fun i=>[(9,AV.int i)],fun i=>[Own.box b4 44 [AV.val (.int .i64 0),AV.val (.bool false),AV.rows 2 [],AV.rows 7 [],AV.rows 7 [],AV.rows 3 [],AV.rows 3 []],Own.gone,Own.gone,Own.box b8 44 (s9 s m i 0 0).cells,Own.gone],fun i=>i≤m.aq.length⟩ (fun i=>m.aq.length-i) 0 hs ?aN ?aO
    case aN=>exact Nat.zero_le _
    case aO=>
     rintro i I a w al hs
     have hi:i≤m.aq.length:=al
     dsimp only at hs
     refine aW fun I a w hs=>?_
     refine nn ?_
     refine hs.cd (fun aI=>?_) fun aI=>?_
     ·try simp only[B] at aI
      refine wp_skip<|aG<|wp_seq<|wp_block ?_
      refine hs.eT [([],none),([3],none),([],none),([],none),([],none),([],none),([],none),([],none),([],none),([],none),([],none),([],none),([3],some (3,[]))] (by kernel_rfl) (by kernel_rfl) rfl ?_
      refine bz ?_
      refine .r [3] (.lb 3) ?_
      refine eK ?_
      refine .o (.cl (JR lS.aq ju.1 (Dr aj).1 aI)) ?_
      refine de ?_
      refine aV.gz (x:=AV.any) 3 (fun F W0 I0 I a w Q hs kk=>hs.s1 3 fun hs=>kk _ _ _ hs) ?_
      refine .nil ?_
      intro I a w hs
      refine aB fun I a w hs=>?_
      refine nn ?_
      exact hs.ag (i+1) (aI)
     ·try simp only[B] at aI
      refine wp_exit<|aF<|aF<|aY ?_
      refine az fun I a w hs=>?_
      refine nn<|wp_block ?_
      refine St.lo (σ:=Nat) (10::(run 19 114 [])) ⟨fun j=>[(10,AV.int j)],fun j=>[Own.box b4 44 [AV.val (.int .i64 0),AV.val (.bool false),AV.rows 2 [],AV.rows 7 [],AV.rows 7 [],AV.rows 3 [],AV.rows 3 []],Own.gone,Own.gone,Own.box b8 44 (s9 s m i j 0).cells,Own.gone],fun j=>j≤m.waits.length⟩ (fun j=>m.waits.length-j) 0 hs ?dT ?dU
      case dT=>exact Nat.zero_le _
      case dU=>
       rintro j I a w al hs
       have hj:j≤m.waits.length:=al
       dsimp only at hs
       refine aW fun I a w hs=>?_
       refine nn ?_
       refine hs.cd (fun aL=>?_) fun aL=>?_
       ·try simp only[B] at aL
        refine wp_skip<|aG<|wp_seq<|wp_block ?_
        refine hs.eT [([],none),([3],none),([],none),([],none),([],none),([],none),([],none),([],none),([],none),([],none),([],none),([],none),([3],some (3,[]))] (by kernel_rfl) (by kernel_rfl) rfl ?_
        refine bz ?_
        refine .r [3] (.lb 3) ?_
        refine eK ?_
        refine .o (.cl (JR lS.waits ju.2.1 (Dr aj).2.1 aL)) ?_
        refine de ?_
        refine aV.gz (x:=AV.any) 3 (fun F W0 I0 I a w Q hs kk=>hs.s1 3 fun hs=>kk _ _ _ hs) ?_
        refine .nil ?_
        intro I a w hs
        refine aB fun I a w hs=>?_
        refine nn ?_
        exact hs.ag (j+1) (aL)
       ·try simp only[B] at aL
        refine wp_exit<|aF<|aF<|aY ?_
        refine az fun I a w hs=>?_
        refine nn<|wp_block ?_
        refine St.lo (σ:=Nat) (11::(run 16 133 [])) ⟨fun k=>[(11,AV.int k)],fun k=>[Own.box b4 44 [AV.val (.int .i64 0),AV.val (.bool false),AV.rows 2 [],AV.rows 7 [],AV.rows 7 [],AV.rows 3 [],AV.rows 3 []],Own.gone,Own.gone,Own.box b8 44 (s9 s m i j k).cells,Own.gone],fun k=>k≤m.aH.length⟩ (fun k=>m.aH.length-k) 0 hs ?iq ?ir
        case iq=>exact Nat.zero_le _
        case ir=>
         rintro k I a w al hs
         have hk:k≤m.aH.length:=al
         dsimp only at hs
         refine aW fun I a w hs=>?_
         refine nn ?_
         refine hs.cd (fun bf=>?_) fun bf=>?_
         ·try simp only[B] at bf
          refine wp_skip<|aG<|wp_seq<|wp_block ?_
          refine hs.dp 9 (by kernel_rfl) (by kernel_rfl) (by kernel_rfl) ?_
          simp only[List.take_succ_cons,List.take_zero,List.drop_succ_cons,List.drop_zero]
          refine jS ?_
          refine .o (.cl (SM (Dr aj).2.2 bf)) ?_
          refine bz ?_
          refine .nil ?_
          intro I a w hs
          refine aJ fun I a w hs=>?_
          refine nn ?_
          exact hs.ag (k+1) (bf)
         ·try simp only[B] at bf
          refine wp_exit<|aF<|aF<|aY ?_
          refine az fun I a w hs=>?_
          refine hs.o (.c1 (q4 ..)) fun hs=>hs.o .nt fun hs=>nn ?_
          refine hs.cd (fun aX=>?_) fun aX=>?_
          ·rw[(zF s m (by omega) (by omega) (by omega)),Bool.not_eq_true'] at aX
           refine aJ fun I a w hs=>?_
           refine nn<|wp_ret<|aE ?_
           refine hs.ret rfl (.cons (.s 0 ba rfl rfl (by first|rfl|assumption)) (.cons (by first|exact .t rfl|exact .nil rfl) aU.nil)) ?_
           exact(by rw[Du ae (by simpa using ah) (by rw[aj,aX];rfl)];rfl)
          ·rw[(zF s m (by omega) (by omega) (by omega)),Bool.not_eq_false'] at aX
           refine wp_skip<|aG<|wp_seq ?_
           refine hs.eT [([3],none),([],none),([],none),([],none),([0],some (0,[])),([],none)] (by kernel_rfl) (by kernel_rfl) rfl ?_
           refine .r [3] (.ls 3) ?_
           refine .o (cI (uB (s9 s m i j k) (by rw[(zF s m (by omega) (by omega) (by omega))];exact(iw.1 aX).ok)) (aw (.t rfl) aP)) ?_
           refine bz ?_
           refine .o (.li [(mh s m).cells] fF (.u .nil)) ?_
           refine aV.gz (x:=AV.any) 0 (fun F W0 I0 I a w Q hs kk=>hs.sb 0 fun hs=>kk _ _ _ hs) ?_
           refine bz ?_
           refine .nil ?_
           intro I a w hs
           refine aG<|wp_ret ?_
           refine hs.ret rfl (.cons (.s 0 ba rfl rfl (by first|rfl|assumption)) (.cons (by first|exact .t rfl|exact .nil rfl) aU.nil)) ?_
           exact(by rw[JT ae (by simpa using ah) (by rw[aj,aX];rfl),(zF s m (by omega) (by omega) (by omega))];rfl)
end Go.Proofs.YtoeioeimmfpefaaGreat
