/- Part 35: rules of the proofs, contracts of functions, plain facts. -/
import Derived.Test.YtoeioeimmfpefaaGreatP32
import Derived.Test.YtoeioeimmfpefaaGreatP34
set_option linter.unusedVariables false
set_option linter.unusedSimpArgs false
set_option maxRecDepth 100000
set_option maxHeartbeats 4000000
namespace Go.Proofs.YtoeioeimmfpefaaGreat
open Go Go.RowKit
attribute [local irreducible] wpList Code.wp Ok
set_option maxHeartbeats 4000000 in
theorem Uc (s:Server) (m:aD) (hg:bw s) (hm:bN m=true) (ho:(cJ m.bc&&(bV m.bc !=bV s.site))=true):
 Fn Tryz.prog 219 [s.av,m.av] (AV.c9 [(gF s m).1.av,bj (gF s m).2]):=by
 refine Fn.intro 76 Tryz.func219 rfl Tryz.ntmps219 rfl (by kernel_rfl) (fun W I a hs=>?_)
 have al:=iw.2 hg
 have cH:=hg.ok
 have gI:=hg.small
 have ju:=mo hm
 have lens:m.aS.length≤9223372036854775807∧m.aq.length≤9223372036854775807∧m.waits.length≤9223372036854775807∧m.aH.length≤9223372036854775807:=by
  obtain⟨cs,_,hc⟩:=hs.env 1 _ rfl
  obtain⟨u0,_,h0,_⟩:=hc.get (i:=9) rfl
  obtain⟨u1,_,h1,_⟩:=hc.get (i:=12) rfl
  obtain⟨u2,_,h2,_⟩:=hc.get (i:=13) rfl
  obtain⟨u3,_,h3,_⟩:=hc.get (i:=14) rfl
  exact⟨bL h0,bL h1,bL h2,bL h3⟩
 have h3:=hg.aR
 refine ai fun I a w hs=>?_
 refine hs.alloc rfl ba df fun b4 I a w hs=>hs.sc fun hs=>nn<|wp_seq<|wp_seq<|hs.dk ?_
 refine mJ ?_
 refine .q .F (eZ (i:=0) cM bt .ag .c (fun hg=>by simp at hg;omega)) ?_
 refine cq ?_
 refine .q .F (.cl (uH s (ab m.aq 0).key h3)) ?_
 refine fP ?_
 refine .q .F (eZ (i:=0) cM bt .ag .c (fun hg=>by simp at hg;omega)) ?_
 refine bz ?_
 refine .q .F (.cl (Cc ..)) ?_
 refine cq ?_
 refine .nil ?_
 intro I a w hs
 refine aG ?_
 refine hs.cd (fun ae=>?_) fun ae=>?_
 ·rw[Km ho] at ae;replace ae:=nt ae
  refine aB fun I a w hs=>?_
  refine nn<|wp_ret<|aE ?_
  refine hs.ret rfl (.cons (.s 0 ba rfl rfl (by first|rfl|assumption)) (.cons (.nil (sz:=15) rfl) aU.nil)) ?_
  exact(by unfold gF;rw[ae];rfl)
 ·rw[Km ho] at ae;replace ae:=nf ae
  refine ai fun I a w hs=>?_
  refine hs.o (eZ (i:=0) cM bt .tt .c (fun _=>by have:=(zh ae).2.2.1;omega)) fun hs=>?_
  refine hs.o .la fun hs=>?_
  refine hs.alloc rfl bt dO fun b6 I a w hs=>?_
  refine hs.sb 1 fun hs=>?_
  obtain⟨I,hs⟩:=hs.fb 1 6
  refine az fun I a w hs=>?_
  refine hs.o (.c1 (qk s gI)) fun hs=>hs.alloc rfl ba df fun b7 I a w hs=>?_
  refine hs.sb 2 fun hs=>?_
  refine nn<|wp_seq<|wp_seq<|hs.dk ?_
  refine du ?_
  refine .o (.c1 (l4 ..)) ?_
  refine .o (.cl (oC ..)) ?_
  refine eK ?_
  refine .q .T (.cl (l4 ..)) ?_
  refine .q .T (.cl (oC ..)) ?_
  refine cq ?_
  refine .nil ?_
  intro I a w hs
  refine aG ?_
  refine hs.cd (fun ah=>?_) fun ah=>?_
  ·simp only[B] at ah
   refine aB fun I a w hs=>?_
   refine hs.o (.cl (Jw _ _ cH.waits)) fun hs=>?_
   refine dq fun I a w hs=>?_
   refine nn ?_
   refine hs.cd (fun aj=>?_) fun aj=>?_
   ·simp only[B] at aj
    refine aB fun I a w hs=>?_
    refine nn<|wp_ret<|aE<|aE ?_
    refine hs.ret rfl (.cons (.s 0 ba rfl rfl (by first|rfl|assumption)) (.cons (.nil (sz:=15) rfl) aU.nil)) ?_
    exact(by unfold gF;rw[ae,if_pos rfl];dsimp only;rw[if_pos ah,aj];rfl)
   ·simp only[B] at aj
    refine aB fun I a w hs=>?_
    refine wpList_nil ?_
    rw[if_pos aj] at hs
    refine aG<|wp_seq ?_
    refine hs.dp 10 (by kernel_rfl) (by kernel_rfl) (by kernel_rfl) ?_
    simp only[List.take_succ_cons,List.take_zero,List.drop_succ_cons,List.drop_zero]
    refine bz ?_
    refine .o (.c1 (uM {s with waits:=eE s.waits (ab m.aq 0)} (cH.CS aj ah.1) (gB hg.aH))) ?_
    refine fP ?_
    refine .o (.bd dB (.k (.k (.t aZ.nil)))) ?_
    refine .o (.c3 (qu s m ⟨6,0,0,0,(ab m.aq 0).key,(ab m.aq 0).aA,0,false,[],0,0,[],[],[]⟩ (td ..)))<|.nil ?_
    intro I a w hs
    refine ai fun I a w hs=>?_
    refine nn<|wp_ret ?_
    refine hs.ret rfl (.cons (.s 0 ba rfl rfl (by first|rfl|assumption)) (.cons (by first|exact .t rfl|exact .nil rfl) aU.nil)) ?_
    exact(by unfold gF;rw[ae,if_pos rfl];dsimp only;rw[if_pos ah,aj];rfl)
  ·rw[←Bool.not_eq_true] at ah;simp only[B] at ah
   refine wp_skip<|aG<|wp_seq ?_
   refine hs.dp 10 (by kernel_rfl) (by kernel_rfl) (by kernel_rfl) ?_
   simp only[List.take_succ_cons,List.take_zero,List.drop_succ_cons,List.drop_zero]
   refine bz ?_
   refine .o (.c1 (uM s cH (gB hg.aH))) ?_
   refine fP ?_
   refine .o (.bd dB (.k (.k (.t aZ.nil)))) ?_
   refine .o (.c3 (qu s m ⟨6,0,0,0,(ab m.aq 0).key,(ab m.aq 0).aA,0,false,[],0,0,[],[],[]⟩ (td ..)))<|.nil ?_
   intro I a w hs
   refine ai fun I a w hs=>?_
   refine nn<|wp_ret ?_
   refine hs.ret rfl (.cons (.s 0 ba rfl rfl (by first|rfl|assumption)) (.cons (by first|exact .t rfl|exact .nil rfl) aU.nil)) ?_
   exact(by unfold gF;rw[ae,if_pos rfl];dsimp only;rw[if_neg ah];rfl)
theorem KQ (s:Server) (m:aD) (x:Bool):((((!decide ((dX s m.slot).aq.length+m.aq.length≤80))||!decide ((dX s m.slot).waits.length+m.waits.length≤80))||decide (80<((dX s m.slot).aH.length:Int)+m.aH.length))||!x)=!(qh s m&&x):=by
 have e:decide (80<((dX s m.slot).aH.length:Int)+m.aH.length)=!decide ((dX s m.slot).aH.length+m.aH.length≤80):=by rw[Bool.eq_iff_iff];simp;omega
 unfold qh
 rw[e];simp
set_option maxHeartbeats 4000000 in
theorem Ud (s:Server) (m:aD) (hg:bw s) (hm:bN m=true) (hf:((m.bc==eG s.site)&&decide (1≤m.bO))=true):
 Fn Tryz.prog 226 [s.av,m.av] (AV.c9 [(gp s m).1.av,bj (gp s m).2]):=by
 refine Fn.intro 106 Tryz.func226 rfl Tryz.ntmps226 rfl (by kernel_rfl) (fun W I a hs=>?_)
 have al:=iw.2 hg
 have cH:=hg.ok
 have gI:=hg.small
 have ju:=mo hm
 have rD:=zc hm
 have lens:m.aS.length≤9223372036854775807∧m.aq.length≤9223372036854775807∧m.waits.length≤9223372036854775807∧m.aH.length≤9223372036854775807:=by
  obtain⟨cs,_,hc⟩:=hs.env 1 _ rfl
  obtain⟨u0,_,h0,_⟩:=hc.get (i:=9) rfl
  obtain⟨u1,_,h1,_⟩:=hc.get (i:=12) rfl
  obtain⟨u2,_,h2,_⟩:=hc.get (i:=13) rfl
  obtain⟨u3,_,h3,_⟩:=hc.get (i:=14) rfl
  exact⟨bL h0,bL h1,bL h2,bL h3⟩
 have h3:=hg.aR
 have lS:=cH.drop m.slot
 have SR:=gB (hg.dX m.slot).aH
 have GK:=gB ju.2.2.1
 have SP:=gn lS.aq
 have SQ:=gn lS.waits
 have e9:∀x,x=dt.cells ⟨m.bO,1⟩→(List.map dt.cells s.aR).set m.slot.toNat x=List.map dt.cells ((dX s m.slot).aR.set m.slot.toNat ⟨m.bO,1⟩):=fun x h=>by rw[h];exact List.map_set.symm
 refine ai fun I a w hs=>?_
 refine hs.alloc rfl ba df fun b4 I a w hs=>?_
 refine dq fun I a w hs=>?_
 refine hs.o (.bd dB (.k (.k (.k aZ.nil)))) fun hs=>?_
 refine hs.o (.c3 (qu s m ⟨10,0,0,0,0,⟨0,0⟩,0,false,[],m.slot,m.bO,[],[],[]⟩ (td ..))) fun hs=>?_
 refine ai fun I a w hs=>?_
 refine aG ?_
 refine hs.cd (fun ae=>?_) fun ae=>?_
 ·simp only[B] at ae
  refine aJ fun I a w hs=>?_
  refine nn<|wp_ret<|aE ?_
  refine hs.ret rfl (.cons (.s 0 ba rfl rfl (by first|rfl|assumption)) (.cons (by first|exact .t rfl|exact .nil rfl) aU.nil)) ?_
  exact(by rw[JS hf (by omega)];rfl)
 ·simp only[B] at ae
  refine aB fun I a w hs=>?_
  refine hs.cW [] (Kf s m.slot gI) (aw .tt (aw .tt aP)) rfl (by decide) rfl fun vS I a w xj hs=>?_
  refine hs.alloc rfl ba df fun b7 I a w hs=>?_
  refine nz fun I a w hs=>?_
  refine hs.o (.cl (Kh (dX s m.slot).aq m.aq lS.aq ju.1)) fun hs=>?_
  refine jR fun I a w hs=>?_
  refine hs.o (.cl (Kh (dX s m.slot).waits m.waits lS.waits ju.2.1)) fun hs=>?_
  refine jR fun I a w hs=>?_
  refine nn<|wp_block ?_
  refine St.lo (σ:=Nat) (14::(run 10 65 [])) ⟨fun k=>[(65,AV.int k)],fun k=>[Own.box b4 44 [AV.val (.int .i64 0),AV.val (.bool false),AV.rows 2 [],AV.rows 7 [],AV.rows 7 [],AV.rows 3 [],AV.rows 3 []],Own.row vS 86 2 (s.aR.map dt.cells),Own.box b7 44 [AV.int s.site,AV.bool s.up,AV.val vS,cv (dX s m.slot).aq,cv (dX s m.slot).waits,bl ((m.aH.take k).foldl dV (dX s m.slot).aH),bl s.bq]],fun k=>k≤m.aH.length⟩ (fun k=>m.aH.length-k) 0 hs ?aN ?aO
  case aN=>exact Nat.zero_le _
  case aO=>
   rintro k I a w al hs
   have hk:k≤m.aH.length:=al
   dsimp only at hs
   refine az fun I a w hs=>?_
   refine nn<|wp_seq ?_
   refine hs.cd (fun ah=>?_) fun ah=>?_
   ·try simp only[B] at ah
    refine ai fun I a w hs=>?_
    refine hs.alloc rfl bk eV fun oH I a w hs=>?_
    refine hs.sb 3 fun hs=>?_
    obtain⟨I,hs⟩:=hs.fb 3 14
    refine aB fun I a w hs=>?_
    refine hs.o (cI (Dg ((m.aH.take k).foldl dV (dX s m.slot).aH) (ab m.aH k) (by have:=JO (dX s m.slot).aH m.aH k;omega)) (aw .r (aw (.t rfl) aP))) fun hs=>?_
    refine aJ fun I a w hs=>?_
    refine nn ?_
    have hs:=hs.drop 3
    rw[←JM ah] at hs
    exact hs.ag (k+1) (ah)
   ·try simp only[B] at ah
    refine wp_exit<|aF<|aF<|aY ?_
    refine cx fun I a w hs=>?_
    refine nn<|wp_seq ?_
    obtain⟨bS,cS,rfl⟩:=hs.g8 1 rfl (by rw[List.length_map];omega)
    refine cx fun I a w hs=>?_
    refine hs.o (.bd lZ (.k (.k aZ.nil))) fun hs=>?_
    refine hs.o (gv ea dz .tt .tt (fun _=>by simp only[List.length_map];omega)) fun hs=>?_
    refine hs.jx 1 dz .tt .tt rfl (by exact ek (by omega)) rfl rfl fun a w hs=>?_
    refine nn<|wp_seq<|wp_seq ?_
    rw[e9] at hs
    rotate_left
    ·rfl
    obtain⟨I,hs⟩:=hs.fu 1 2 2
    rw[show m.aH.take k=m.aH from List.take_of_length_le (by omega)] at hs
    refine pS fun I a w hs=>?_
    refine hs.q .F (.cl (tZ (qg s m))) fun hs=>?_
    refine ai fun I a w hs=>?_
    refine nn ?_
    refine hs.cd (fun aj=>?_) fun aj=>?_
    ·rw[KQ] at aj;replace aj:=nt aj
     refine aB fun I a w hs=>?_
     refine nn<|wp_ret<|aE ?_
     refine hs.ret rfl (.cons (.s 0 ba rfl rfl (by first|rfl|assumption)) (.cons (.nil (sz:=15) rfl) aU.nil)) ?_
     exact(by rw[Du hf (by omega) aj];rfl)
    ·rw[KQ] at aj;replace aj:=nf aj
     refine az fun I a w hs=>?_
     refine hs.o (cI (uM (qg s m) (iw.1 (by simp only[Bool.and_eq_true] at aj;exact aj.2)).ok (gB (iw.1 (by simp only[Bool.and_eq_true] at aj;exact aj.2)).aH)) (aw (.t rfl) aP)) fun hs=>?_
     refine aB fun I a w hs=>?_
     refine nn<|wp_ret ?_
     refine hs.ret rfl (.cons (.s 0 ba rfl rfl (by first|rfl|assumption)) (.cons (by first|exact .t rfl|exact .nil rfl) aU.nil)) ?_
     exact(by rw[JT hf (by omega) aj];rfl)
theorem KR (x:Bool) (n:Int):(x&&!decide (0≤n))=(x&&decide (n<0)):=by
 have e:(!decide (0≤n))=decide (n<0):=by rw[Bool.eq_iff_iff];simp
 rw[e]
theorem Ue {l:List aK} {d:ar} {v:aK} (h:iF l d=some v):0≤placeOf l d∧placeOf l d<l.length∧ab l (placeOf l d).toNat=v:=by
 unfold iF at h
 split at h
 ·rename_i hp
  have:=(wH hp).1
  exact⟨hp,by omega,Option.some.inj h⟩
 ·cases h
theorem Uf {s:Server} {k:Nat} (hk:k<s.aH.length) (h:eW s (ab s.aH k).key=false) (hb:cU (ab s.aH k).key=true):gH s k=gH s (k+1):=by
 unfold eW at h
 rw[hb,Bool.true_and] at h
 rw[zG hk,JY (by simpa using h),List.append_nil]
theorem Ug {s:Server} {t:Int} {v:aK} (h:v.aS.length≤1048576):iV {bP with kind:=5,bc:=s.site,to:=t,aq:=[v]}:=⟨Nat.zero_le _,⟨by simp,fun x hx=>by obtain rfl:=List.mem_singleton.1 hx;exact h⟩,⟨Nat.zero_le _,fun _ h=>by cases h⟩,Nat.zero_le _⟩
theorem Uh {s:Server} (h:bw s) {d:ar} (hd:d∈s.aH):cU d.key=true:=by
 have:=(ux.1 h.aH).2.1 d hd
 unfold jA at this
 simp only[Bool.and_eq_true] at this
 exact this.1
set_option maxHeartbeats 4000000 in
theorem Ui (site:Nat) (h4:site<4):
 Fn Tryz.prog 23 [AV.int (site:Int)] ((sQ site).av):=by
 refine Fn.intro 33 Tryz.func23 rfl Tryz.ntmps23 rfl (by kernel_rfl) (fun W I a hs=>?_)
 have vJ:cJ (site:Int)=true:=kS.2 (by omega)
 refine sr<|hs.alloc rfl ba df fun b2 I a w hs=>?_
 refine az fun I a w hs=>?_
 refine hs.o (.c1 (pU ..)) fun hs=>hs.o .nt fun hs=>nn ?_
 refine hs.cd (fun ae=>?_) fun ae=>?_
 ·exfalso;rw[vJ] at ae;cases ae
  skip
 ·skip
  refine az fun I a w hs=>?_
  refine hs.o (.bd ym (.k (.k aZ.nil))) fun hs=>?_
  refine hs.alloc rfl ba ym fun b3 I a w hs=>?_
  refine hs.sb 1 fun hs=>?_
  refine wpList_nil ?_
  have hs:=hs.fi (sz:=2) 86
  refine az fun I a w hs=>?_
  refine nn<|wp_block ?_
  refine St.lo (σ:=Nat×Value) (4::(run 21 11 [])) ⟨fun⟨k,v⟩=>[(11,AV.int k)],fun⟨k,v⟩=>[Own.box b2 44 [AV.val (.int .i64 0),AV.val (.bool false),AV.rows 2 [],AV.rows 7 [],AV.rows 7 [],AV.rows 3 [],AV.rows 3 []],Own.box b3 44 [AV.int (site:Int),AV.bool true,AV.val v,AV.val (.slice none 0 0),AV.val (.slice none 0 0),AV.val (.slice none 0 0),AV.val (.slice none 0 0)],Own.row v 86 2 ((oT site k).map dt.cells)],fun⟨k,v⟩=>k≤3⟩ (fun⟨k,v⟩=>3-k) (0,.slice none 0 0) hs ?aN ?aO
  case aN=>exact Nat.zero_le _
  case aO=>
   rintro⟨k,v⟩ I a w al hs
   have hk:k≤3:=al
   dsimp only at hs
   refine az fun I a w hs=>?_
   refine nn<|wp_seq ?_
   refine hs.cd (fun ah=>?_) fun ah=>?_
   ·try simp only[B] at ah
    refine aB fun I a w hs=>?_
    refine hs.o (pI .tt .c (fun _=>by omega)) fun hs=>?_
    refine hs.m fun hs=>?_
    refine hs.o (pI .tt .c (fun _=>by omega)) fun hs=>?_
    refine hs.o .F8 fun hs=>nn ?_
    refine hs.cd (fun aj=>?_) fun aj=>?_
    ·try simp only[B] at aj
     refine ai fun I a w hs=>?_
     refine hs.o (.bd lZ (.k (.k aZ.nil))) fun hs=>?_
     refine hs.o (.li [dt.cells ⟨1,1⟩] yq (.u .nil)) fun hs=>?_
     refine hs.append 2 rfl ea dz rfl .tt .r rfl (by rw[List.length_map,zJ];simp;omega) fun yW a w hs=>?_
     refine hs.o .fv fun hs=>?_
     try have acO:=hs.dS 2 rfl
     refine aB fun I a w hs=>?_
     refine nn ?_
     rw[ck,J9 (by simpa using aj)] at hs
     exact hs.ag (k+1,yW) (by show k+1≤3;omega)
    ·try simp only[B] at aj
     refine ai fun I a w hs=>?_
     refine hs.o (.bd lZ aZ.nil) fun hs=>?_
     refine hs.o (.li [dt.cells ⟨0,0⟩] yq (.u .nil)) fun hs=>?_
     refine hs.append 2 rfl ea dz rfl .tt .r rfl (by rw[List.length_map,zJ];simp;omega) fun uq a w hs=>?_
     refine hs.o .fv fun hs=>?_
     try have Uj:=hs.dS 2 rfl
     refine aB fun I a w hs=>?_
     refine nn ?_
     rw[ck,Ka (by simpa using aj)] at hs
     exact hs.ag (k+1,uq) (by show k+1≤3;omega)
   ·try simp only[B] at ah
    refine wp_exit<|aF<|aF<|aY<|aG<|wp_seq ?_
    obtain⟨I,hs⟩:=hs.fu 2 2 1
    have hs:=hs.km (q:=3) 1 rfl rfl (eb 7 _)
    have hs:=hs.km (q:=4) 1 rfl rfl (eb 7 _)
    have hs:=hs.km (q:=5) 1 rfl rfl (eb 3 _)
    have hs:=hs.km (q:=6) 1 rfl rfl (eb 3 _)
    refine ai fun I a w hs=>?_
    refine nn<|wp_ret ?_
    refine hs.ret rfl (.cons (.s 0 ba rfl rfl (by first|rfl|assumption)) aU.nil) ?_
    have rf:k=3:=by omega
    subst rf
    rfl
set_option maxHeartbeats 4000000 in
theorem Uk (s:Server) (hg:bw s):
 Fn Tryz.prog 139 [s.av] (bj (js s)):=by
 refine Fn.intro 129 Tryz.func139 rfl Tryz.ntmps139 rfl (by kernel_rfl) (fun W I a hs=>?_)
 have hs:=hs.fi (sz:=15) 74
 have hs:=hs.fi (sz:=3) 97
 have al:=iw.2 hg
 have cH:=hg.ok
 have gI:=hg.small
 have lens:s.aR.length≤9223372036854775807∧s.aq.length≤9223372036854775807∧s.waits.length≤9223372036854775807∧s.aH.length≤9223372036854775807∧s.bq.length≤9223372036854775807:=by
  obtain⟨cs,_,hc⟩:=hs.env 0 _ rfl
  obtain⟨u0,_,h0,_⟩:=hc.get (i:=2) rfl
  obtain⟨u1,_,h1,_⟩:=hc.get (i:=3) rfl
  obtain⟨u2,_,h2,_⟩:=hc.get (i:=4) rfl
  obtain⟨u3,_,h3,_⟩:=hc.get (i:=5) rfl
  obtain⟨u4,_,h4,_⟩:=hc.get (i:=6) rfl
  exact⟨bL h0,bL h1,bL h2,bL h3,bL h4⟩
 have h3:=hg.aR
 have wW:=gn hg.aq
 have ju:=gn hg.waits
 have gf:=gB hg.aH
 have n5:∀v∈s.waits,v.aS.length≤6:=fun v hv=>gm (jE (gA hg.waits v hv)).2.2
 have S8:=C6 hg.site
 refine aB fun I a w hs=>?_
 refine hs.o (.c1 (tZ s)) fun hs=>?_
 refine cx fun I a w hs=>?_
 refine nn ?_
 refine hs.cd (fun ae=>?_) fun ae=>?_
 ·rw[zI] at ae;replace ae:=nt ae
  refine az fun I a w hs=>?_
  refine nn<|wp_ret<|aE<|hs.ret rfl (.cons (.nil (sz:=15) rfl) aU.nil) ?_
  exact(by rw[al,Bool.true_and] at ae;rw[J4 ae];rfl)
 ·rw[zI] at ae;replace ae:=nf ae;rw[Bool.and_eq_true] at ae
  refine aW fun I a w hs=>?_
  refine nn<|wp_block ?_
  refine St.lo (σ:=Nat×Value) (run 3 3 (run 15 27 [])) ⟨fun⟨n,v⟩=>[(27,AV.int n),(3,AV.val v)],fun⟨n,v⟩=>[Own.row v 74 15 ((mu s n).map aD.cells),Own.row (.slice none 0 0) 97 3 ([])],fun⟨n,v⟩=>n≤s.aR.length⟩ (fun⟨n,v⟩=>s.aR.length-n) (0,(.slice none 0 0)) hs ?aN ?aO
  case aN=>exact Nat.zero_le _
  case aO=>
   rintro⟨n,v⟩ I a w al hs
   have hn:n≤s.aR.length:=al
   dsimp only at hs
   refine az fun I a w hs=>?_
   refine nn<|wp_seq ?_
   refine hs.cd (fun ah=>?_) fun ah=>?_
   ·try simp only[B] at ah
    refine aB fun I a w hs=>?_
    refine hs.alloc rfl dz lZ fun b5 I a w hs=>?_
    refine ai fun I a w hs=>?_
    obtain⟨I,hs⟩:=hs.fb 2 5
    refine aB fun I a w hs=>?_
    refine nn ?_
    refine hs.cd (fun aj=>?_) fun aj=>?_
    ·try simp only[B] at aj
     refine aB fun I a w hs=>?_
     refine hs.o (cI (Kg s (n:Int) gI hg.site h3 (by omega)) (aw (.t rfl) (aw (.t rfl) aP))) fun hs=>?_
     refine hs.o (.li [(fg s (n:Int)).cells] fF (.u .nil)) fun hs=>?_
     refine hs.append 0 rfl dh cj rfl .tt .r rfl (by have:=Dw s n;simp;omega) fun HZ a w hs=>?_
     rw[ck,JV (by simpa using aj)] at hs
     refine aB fun I a w hs=>?_
     refine nn ?_
     have hs:=hs.drop 2
     exact hs.ag (n+1,HZ) (ah)
    ·try simp only[B] at aj
     refine ai fun I a w hs=>?_
     refine nn ?_
     have hs:=hs.drop 2
     rw[JW (by simpa using aj)] at hs
     exact hs.ag (n+1,v) (ah)
   ·try simp only[B] at ah
    refine wp_exit<|aF<|aF<|aY<|aG<|wp_seq ?_
    rw[J5 (by omega)] at hs
    refine ai fun I a w hs=>?_
    refine hs.o (.c1 (we _)) fun hs=>hs.o .BS fun hs=>?_
    refine hs.o (mz .c .tt (fun _=>by omega)) fun hs=>?_
    refine hs.s fun hs=>wpList_nil ?_
    rw[show 2*(1-bV s.site)=2-2*bV s.site by omega] at hs
    refine aJ fun I a w hs=>?_
    refine nn<|wp_block ?_
    refine St.lo (σ:=Nat×Value) (3::(run 3 8 (run 35 50 []))) ⟨fun⟨k,v⟩=>[(50,AV.int k),(3,AV.val v)],fun⟨k,v⟩=>[Own.row v 74 15 ((gH s k).map aD.cells),Own.row (.slice none 0 0) 97 3 ([])],fun⟨k,v⟩=>k≤s.aH.length⟩ (fun⟨k,v⟩=>s.aH.length-k) (0,v) hs ?dT ?dU
    case dT=>exact Nat.zero_le _
    case dU=>
     rintro⟨k,v⟩ I a w al hs
     have hk:k≤s.aH.length:=al
     dsimp only at hs
     refine az fun I a w hs=>?_
     refine nn<|wp_seq ?_
     refine hs.cd (fun aI=>?_) fun aI=>?_
     ·try simp only[B] at aI
      refine ai fun I a w hs=>?_
      refine hs.alloc rfl bk eV fun b8 I a w hs=>?_
      refine hs.sb 2 fun hs=>?_
      obtain⟨I,hs⟩:=hs.fb 2 8
      refine aB fun I a w hs=>?_
      refine hs.o (.c2 (uH s (ab s.aH k).key h3)) fun hs=>hs.o .nt fun hs=>nn ?_
      refine hs.cd (fun aL=>?_) fun aL=>?_
      ·replace aL:=nt aL
       refine wp_exit<|aF<|aY ?_
       refine ai fun I a w hs=>?_
       refine nn ?_
       have hs:=hs.drop 2
       rw[Uf aI aL (Uh hg (bx aI))] at hs
       exact hs.ag (k+1,v) (aI)
      ·replace aL:=nf aL
       refine wp_skip<|aG<|wp_seq ?_
       obtain⟨vd,oV,xf,mq⟩:=JZ hg (bx aI)
       obtain⟨ny,zR,KS⟩:=Ue oV
       refine hs.mG 9 (by kernel_rfl) (by kernel_rfl) (by kernel_rfl) ?_
       simp only[List.take_succ_cons,List.take_zero,List.drop_succ_cons,List.drop_zero]
       refine eK ?_
       refine .o (.cl (oC s.aq (ab s.aH k))) ?_
       refine cq ?_
       refine fl.alloc bt dO<|.nil ?_
       intro I a w hs
       obtain⟨b9,hs⟩:=hs.qL (d:=9) rfl
       refine hs.sb 3 fun hs=>?_
       obtain⟨I,hs⟩:=hs.fb 3 9
       refine wpList_nil ?_
       rw[KS] at hs
       refine aG<|wp_seq ?_
       rw[show gH s k=gH s k++(jf s (ab s.aH k)).take 0 from by simp] at hs
       refine ai fun I a w hs=>?_
       refine nn<|wp_block ?_
       refine St.lo (σ:=Nat×Int×Value) (3::(10::(run 16 68 []))) ⟨fun⟨j,t,v2⟩=>[(10,AV.int t),(3,AV.val v2)],fun⟨j,t,v2⟩=>[Own.row v2 74 15 ((gH s k++(jf s (ab s.aH k)).take j).map aD.cells),Own.row (.slice none 0 0) 97 3 ([]),Own.gone,Own.gone],fun⟨j,t,v2⟩=>j≤2∧t=2-2*bV s.site+(j:Int)⟩ (fun⟨j,t,v2⟩=>2-j) (0,2-2*bV s.site,v) hs ?iq ?ir
       case iq=>exact⟨Nat.zero_le _,by simp⟩
       case ir=>
        rintro⟨j,t,v2⟩ I a w al hs
        obtain⟨hj,rfl⟩:=al
        dsimp only at hs
        refine aJ fun I a w hs=>?_
        refine nn ?_
        refine hs.cd (fun bf=>?_) fun bf=>?_
        ·try simp only[B] at bf
         refine aW fun I a w hs=>?_
         refine hs.o (.li [vd.cells] jD (.u .nil)) fun hs=>?_
         refine hs.o (.bd dB (.k (.k (.k (.k aZ.nil))))) fun hs=>?_
         refine hs.o (.c1 (wT {bP with kind:=5,bc:=s.site,to:=2-2*bV s.site+(j:Int),aq:=[vd]} (Ug (gI.2.1.2 vd mq)))) fun hs=>?_
         refine hs.o (.li [({bP with kind:=5,bc:=s.site,to:=2-2*bV s.site+(j:Int),aq:=[vd]}:aD).cells] fF (.u .nil)) fun hs=>?_
         refine hs.append 0 rfl dh cj rfl .tt .r rfl (by have:=uI s k hk;simp;omega) fun H6 a w hs=>?_
         rw[ck,J7 (zf aL).2 oV (by omega)] at hs
         refine aJ fun I a w hs=>?_
         refine nn ?_
         exact hs.ag (j+1,2-2*bV s.site+(j:Int)+1,H6) (⟨by show j+1≤2;omega,by simp;omega⟩)
        ·try simp only[B] at bf
         refine wp_exit<|aF<|aF<|aY ?_
         refine ai fun I a w hs=>?_
         refine nn ?_
         have hs:=hs.drop 2
         rw[J8 aI (by omega)] at hs
         exact hs.ag (k+1,v2) (aI)
     ·try simp only[B] at aI
      refine wp_exit<|aF<|aF<|aY ?_
      refine az fun I a w hs=>?_
      refine nn<|wp_seq<|wp_seq ?_
      rw[J6 (by omega)] at hs
      refine aJ fun I a w hs=>?_
      refine nn<|wp_block ?_
      refine St.lo (σ:=Nat×Value×Value) (3::(11::(13::(15::(run 40 88 []))))) ⟨fun⟨i,v,u⟩=>[(88,AV.int i),(3,AV.val v),(11,AV.val u)],fun⟨i,v,u⟩=>[Own.row v 74 15 ((lE s (kT s i)).map aD.cells),Own.row u 97 3 ((kT s i).map ar.cells)],fun⟨i,v,u⟩=>i≤s.waits.length⟩ (fun⟨i,v,u⟩=>s.waits.length-i) (0,v,(.slice none 0 0)) hs ?ta ?tb
      case ta=>exact Nat.zero_le _
      case tb=>
       rintro⟨i,v,u⟩ I a w al hs
       have hi:i≤s.waits.length:=al
       dsimp only at hs
       refine az fun I a w hs=>?_
       refine nn<|wp_seq ?_
       refine hs.cd (fun aX=>?_) fun aX=>?_
       ·try simp only[B] at aX
        refine ai fun I a w hs=>?_
        refine hs.alloc rfl bt dO fun yD I a w hs=>?_
        refine hs.sb 2 fun hs=>?_
        obtain⟨I,hs⟩:=hs.fb 2 13
        refine aJ fun I a w hs=>?_
        refine nn<|wp_block ?_
        refine St.lo (σ:=Nat×Value×Value) (3::(11::(15::(run 32 95 [])))) ⟨fun⟨j,v2,u2⟩=>[(95,AV.int j),(3,AV.val v2),(11,AV.val u2)],fun⟨j,v2,u2⟩=>[Own.row v2 74 15 ((lE s (gY s i j)).map aD.cells),Own.row u2 97 3 ((gY s i j).map ar.cells),Own.gone],fun⟨j,v2,u2⟩=>j≤(ab s.waits i).aS.length⟩ (fun⟨j,v2,u2⟩=>(ab s.waits i).aS.length-j) (0,v,u) hs ?DC ?DD
        case DC=>exact Nat.zero_le _
        case DD=>
         rintro⟨j,v2,u2⟩ I a w al hs
         have hj:j≤(ab s.waits i).aS.length:=al
         have Tc:=n5 _ (bx aX)
         dsimp only at hs
         refine az fun I a w hs=>?_
         refine nn<|wp_seq ?_
         refine hs.cd (fun bU=>?_) fun bU=>?_
         ·try simp only[B] at bU
          refine ai fun I a w hs=>?_
          refine hs.alloc rfl bk eV fun CL I a w hs=>?_
          refine hs.sb 3 fun hs=>?_
          obtain⟨I,hs⟩:=hs.fb 3 15
          refine ai fun I a w hs=>?_
          refine hs.o (.c2 (Ju s (ab (ab s.waits i).aS j))) fun hs=>?_
          refine aJ fun I a w hs=>?_
          refine hs.q .T (ye 1 (aw .ag (aw .ag aP)) rfl (xa (gY s i j) (ab (ab s.waits i).aS j)) (fun _ _ _ h=>h)) fun hs=>?_
          refine ai fun I a w hs=>?_
          refine nn ?_
          refine hs.cd (fun cQ=>?_) fun cQ=>?_
          ·rw[KR] at cQ
           refine ai fun I a w hs=>?_
           refine hs.o (.li [(ab (ab s.waits i).aS j).cells] fU (.u .nil)) fun hs=>?_
           refine hs.append 1 rfl bA bk rfl .tt .r rfl (by have:=uK n5 i hi;have:=xe s i j;have:=n5 _ (bx aX);simp;omega) fun Ul a w hs=>?_
           rw[ck,show gY s i j++[(ab (ab s.waits i).aS j)]=gY s i (j+1) from by rw[uJ bU,zH cQ]] at hs
           refine hs.s fun hs=>nn ?_
           refine hs.dp 12 (by kernel_rfl) (by kernel_rfl) (by kernel_rfl) ?_
           simp only[List.take_succ_cons,List.take_zero,List.drop_succ_cons,List.drop_zero]
           refine eK ?_
           refine .o (.c1 (Df _ hg.site)) ?_
           refine de ?_
           refine .o (.bd dB (.k (.k (.k (.k (.t aZ.nil)))))) ?_
           refine .o (.li [(kf s (ab (ab s.waits i).aS j)).cells] fF (.u .nil)) ?_
           refine .nil ?_
           intro I a w hs
           refine hs.append 0 rfl dh cj rfl .tt .r rfl (by have:=uK n5 i hi;have:=xe s i j;have:=n5 _ (bx aX);have:=uI s _ (Nat.le_refl s.aH.length);simp[lE];omega) fun Um a w hs=>?_
           rw[ck,J2,show gY s i j++[(ab (ab s.waits i).aS j)]=gY s i (j+1) from by rw[uJ bU,zH cQ]] at hs
           refine aB fun I a w hs=>?_
           refine nn ?_
           have hs:=hs.drop 3
           exact hs.ag (j+1,Um,Ul) (bU)
          ·rw[KR] at cQ
           refine ai fun I a w hs=>?_
           refine nn ?_
           have hs:=hs.drop 3
           rw[show gY s i j=gY s i (j+1) from by rw[uJ bU,J1 cQ]] at hs
           exact hs.ag (j+1,v2,u2) (bU)
         ·try simp only[B] at bU
          refine wp_exit<|aF<|aF<|aY ?_
          refine ai fun I a w hs=>?_
          refine nn ?_
          have hs:=hs.drop 2
          rw[Dx aX (by omega)] at hs
          exact hs.ag (i+1,v2,u2) (aX)
       ·try simp only[B] at aX
        refine wp_exit<|aF<|aF<|aY<|aG<|wp_seq ?_
        rw[Dy s (by omega),Dz ae.2 h3] at hs
        obtain⟨I,hs⟩:=hs.fr 0 3
        refine ai fun I a w hs=>?_
        refine nn<|wp_ret ?_
        refine hs.rt ?_
        rfl
theorem xk {l:List aK} {d:ar} (h:decide (placeOf l d<0)=false):0≤placeOf l d∧placeOf l d<l.length∧iF l d=some (ab l (placeOf l d).toNat):=by
 have hp:0≤placeOf l d:=by simpa using h
 have ha:iF l d=some (ab l (placeOf l d).toNat):=by unfold iF;rw[if_pos hp]
 refine⟨hp,?_,ha⟩
 have:=(wH hp).1
 omega
theorem KT {s:Server} {m:aD} {y:Bool} {v:aK} (h:v.aS.length≤1048576):iV ⟨4,0,0,m.call,m.key,m.aA,0,y,[],0,0,[v],[],[]⟩:=⟨Nat.zero_le _,⟨by simp,fun x hx=>by obtain rfl:=List.mem_singleton.1 hx;exact h⟩,⟨Nat.zero_le _,fun _ h=>by cases h⟩,Nat.zero_le _⟩
theorem Un (s:Server) (m:aD) (hg:bw s) (ho:(aQ m.bc 10 11&&decide (1≤m.call)&&eW s m.key)=true):
 Fn Tryz.prog 218 [s.av,m.av] (AV.c9 [((s,gW s m)).1.av,bj ((s,gW s m)).2]):=by
 refine Fn.intro 55 Tryz.func218 rfl Tryz.ntmps218 rfl (by kernel_rfl) (fun W I a hs=>?_)
 have al:=iw.2 hg
 have cH:=hg.ok
 have gI:=hg.small
 have rZ:∀v∈s.aq,v.aS.length≤1048576:=gI.2.1.2
 refine ai fun I a w hs=>?_
 refine hs.alloc rfl ba df fun b4 I a w hs=>?_
 refine dq fun I a w hs=>?_
 refine hs.o (.bd dB (.k (.k (.k (.t aZ.nil))))) fun hs=>?_
 refine hs.alloc rfl cj dB fun b6 I a w hs=>?_
 refine aW fun I a w hs=>?_
 refine hs.o (.cl (KN s.aq m.key rZ)) fun hs=>?_
 refine aB fun I a w hs=>?_
 refine hs.alloc rfl bt dO fun b7 I a w hs=>?_
 refine aJ fun I a w hs=>?_
 refine hs.o (.c1 (sD ..)) fun hs=>hs.o .nt fun hs=>nn ?_
 refine hs.cd (fun ae=>?_) fun ae=>?_
 ·replace ae:=nt ae
  refine cx fun I a w hs=>?_
  refine hs.o (.bd eV (.k (.t aZ.nil))) fun hs=>?_
  refine hs.o (.cl (oC s.aq ⟨m.key,m.aA⟩)) fun hs=>?_
  refine aB fun I a w hs=>?_
  refine nn ?_
  refine hs.cd (fun ah=>?_) fun ah=>?_
  ·skip
   refine aB fun I a w hs=>?_
   refine nn<|wp_ret<|aE<|aE ?_
   refine hs.ret rfl (.cons (.s 0 ba rfl rfl (by first|rfl|assumption)) (.cons (.nil (sz:=15) rfl) aU.nil)) ?_
   exact(by show AV.c9 [s.av,_]=AV.c9 [s.av,bj (gW s m)];unfold gW;rw[ho,if_pos rfl];rw[ae,if_neg (by simp),show iF s.aq ⟨m.key,m.aA⟩=none from by unfold iF;rw[if_neg (by simpa using ah)]];rfl)
  ·skip
   refine aB fun I a w hs=>?_
   refine hs.o ((by first|exact eZ cM bt .tt .tt (fun _=>by have:=xk ah;omega)|exact iM cM bt .tt .tt (fun _=>by have:=xk ah;omega)|exact iX cM bt .tt .tt (fun _=>by have:=xk ah;omega))) fun hs=>?_
   refine aJ fun I a w hs=>?_
   refine nn ?_
   refine hs.cd (fun aj=>?_) fun aj=>?_
   ·skip
    refine hs.eT [([2],none),([],none),([],none),([1],some (1,[])),([],none),([1],some (1,[]))] (by kernel_rfl) (by kernel_rfl) rfl ?_
    refine .r [2] (.ls 2) ?_
    refine .o (.li [_] jD (.u .nil)) ?_
    refine bz ?_
    refine aV.gz (x:=AV.any) 1 (fun F W0 I0 I a w Q hs kk=>hs.s1 1 fun hs=>kk _ _ _ hs) ?_
    refine bz ?_
    refine aV.gz (x:=AV.any) 1 (fun F W0 I0 I a w Q hs kk=>hs.s1 1 fun hs=>kk _ _ _ hs) ?_
    refine .nil ?_
    intro I a w hs
    refine aG<|wp_seq ?_
    refine hs.dp 5 (by kernel_rfl) (by kernel_rfl) (by kernel_rfl) ?_
    simp only[List.take_succ_cons,List.take_zero,List.drop_succ_cons,List.drop_zero]
    refine de ?_
    refine .o (cI (qu s m ⟨4,0,0,m.call,m.key,m.aA,0,true,[],0,0,[ab s.aq (placeOf s.aq ⟨m.key,m.aA⟩).toNat],[],[]⟩ (KT (s:=s) (rZ _ (bx (by have:=xk ah;omega))))) (aw (.t rfl) (aw (.t rfl) (aw (.t rfl) aP)))) ?_
    refine .nil ?_
    intro I a w hs
    refine ai fun I a w hs=>?_
    refine nn<|wp_ret ?_
    refine hs.ret rfl (.cons (.s 0 ba rfl rfl (by first|rfl|assumption)) (.cons (by first|exact .t rfl|exact .nil rfl) aU.nil)) ?_
    exact(by show AV.c9 [s.av,_]=AV.c9 [s.av,bj (gW s m)];unfold gW;rw[ho,if_pos rfl];rw[ae,if_neg (by simp),(xk ah).2.2];rfl)
   ·cases aj
    skip
 ·replace ae:=nf ae
  refine az fun I a w hs=>?_
  refine nn ?_
  refine hs.cd (fun aI=>?_) fun aI=>?_
  ·skip
   refine hs.eT [([2],none),([],none),([],none),([1],some (1,[])),([],none),([1],some (1,[]))] (by kernel_rfl) (by kernel_rfl) rfl ?_
   refine .r [2] (.ls 2) ?_
   refine .o (.li [_] jD (.u .nil)) ?_
   refine bz ?_
   refine aV.gz (x:=AV.any) 1 (fun F W0 I0 I a w Q hs kk=>hs.s1 1 fun hs=>kk _ _ _ hs) ?_
   refine bz ?_
   refine aV.gz (x:=AV.any) 1 (fun F W0 I0 I a w Q hs kk=>hs.s1 1 fun hs=>kk _ _ _ hs) ?_
   refine .nil ?_
   intro I a w hs
   refine aG<|wp_seq ?_
   refine hs.dp 5 (by kernel_rfl) (by kernel_rfl) (by kernel_rfl) ?_
   simp only[List.take_succ_cons,List.take_zero,List.drop_succ_cons,List.drop_zero]
   refine de ?_
   refine .o (cI (qu s m ⟨4,0,0,m.call,m.key,m.aA,0,true,[],0,0,[(fG s.aq m.key).getD default],[],[]⟩ (KT (s:=s) (by obtain⟨v,hv⟩:=Option.isSome_iff_exists.1 aI;rw[hv];exact rZ _ (CD hv).1))) (aw (.t rfl) (aw (.t rfl) (aw (.t rfl) aP)))) ?_
   refine .nil ?_
   intro I a w hs
   refine ai fun I a w hs=>?_
   refine nn<|wp_ret ?_
   refine hs.ret rfl (.cons (.s 0 ba rfl rfl (by first|rfl|assumption)) (.cons (by first|exact .t rfl|exact .nil rfl) aU.nil)) ?_
   exact(by show AV.c9 [s.av,_]=AV.c9 [s.av,bj (gW s m)];unfold gW;rw[ho,if_pos rfl];rw[ae,if_pos rfl];obtain⟨v,hv⟩:=Option.isSome_iff_exists.1 aI;unfold kJ;rw[hv];rfl)
  ·skip
   refine wp_skip<|aG<|wp_seq ?_
   refine hs.dp 5 (by kernel_rfl) (by kernel_rfl) (by kernel_rfl) ?_
   simp only[List.take_succ_cons,List.take_zero,List.drop_succ_cons,List.drop_zero]
   refine de ?_
   refine .o (.c3 (qu s m ⟨4,0,0,m.call,m.key,m.aA,0,false,[],0,0,[],[],[]⟩ (td ..)))<|.nil ?_
   intro I a w hs
   refine ai fun I a w hs=>?_
   refine nn<|wp_ret ?_
   refine hs.ret rfl (.cons (.s 0 ba rfl rfl (by first|rfl|assumption)) (.cons (by first|exact .t rfl|exact .nil rfl) aU.nil)) ?_
   exact(by show AV.c9 [s.av,_]=AV.c9 [s.av,bj (gW s m)];unfold gW;rw[ho,if_pos rfl];rw[ae,if_pos rfl];unfold kJ;rw[show fG s.aq m.key=none from xb (by rw[aI];rfl)];rfl)
end Go.Proofs.YtoeioeimmfpefaaGreat
