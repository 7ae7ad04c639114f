/- Part 21: rules of the proofs, contracts of functions, plain facts. -/
import Derived.Test.YtoeioeimmfpefaaGreatP19
import Derived.Test.YtoeioeimmfpefaaGreatP20
set_option linter.unusedVariables false
set_option linter.unusedSimpArgs false
set_option maxRecDepth 100000
set_option maxHeartbeats 4000000
namespace Go.Proofs.YtoeioeimmfpefaaGreat
open Go Go.RowKit
attribute [local irreducible] wpList Code.wp Ok
theorem Ip (l:List Call) (time:Int) (k:Nat):(!eL (ab l k) time||(decide (0<(k:Int))&&decide ((ab l k).bm≤(ab l ((k:Int)-1).toNat).bm)))=!ug l time k:=HT l time k
theorem Iq {d q:Call} (h:d.aC=q.aC):(!d.over&&((d.end_==0)||decide (q.bm≤d.end_)))=ke d q:=by
 unfold ke;rw[h];simp
theorem Qt {d q:Call} (h:¬d.aC=q.aC):ke d q=false:=by
 unfold ke;simp[h]
theorem yS (l:List Call) (time:Int) (k:Nat):ku l time k=((ug l time k&&((ab l k).num==fo l (k+1) (ab l k).aC))&&cO k fun j=>!ke (ab l j) (ab l k)):=rfl
set_option maxHeartbeats 4000000 in
theorem Ir (l:List Call) (time:Int) (ht:time≤4611686018427387904) (rl:∀q∈l,q.ax.length≤1048576):
 Fn Tryz.prog 41 [bE l,AV.int time] (AV.bool (iu l time)):=by
 refine Fn.intro 98 Tryz.func41 rfl Tryz.ntmps41 rfl (by kernel_rfl) (fun W I a hs=>?_)
 have hle:=hs.ew (t:=0) rfl
 refine aJ fun I a w hs=>?_
 refine nn ?_
 refine hs.cd (fun ae=>?_) fun ae=>?_
 ·try simp only[B] at ae
  refine az fun I a w hs=>?_
  refine nn<|wp_ret<|aE ?_
  refine hs.rt ?_
  exact bM (by unfold iu;rw[Qr ae];simp)
 ·try simp only[B] at ae
  refine az fun I a w hs=>?_
  refine nn<|wp_block ?_
  refine St.lo (σ:=Nat) (run 4 4 (run 87 11 [])) ⟨fun k=>[(5,AV.int k)],fun k=>[],fun k=>k≤l.length∧∀i,i<k→(ku l time) i=true⟩ (fun k=>l.length-k) 0 hs ?aN ?aO
  case aN=>exact⟨Nat.zero_le _,fun i hi=>by omega⟩
  case aO=>
   rintro k I a w al hs
   obtain⟨pY,aT⟩:=al
   refine aJ fun I a w hs=>?_
   refine nn ?_
   refine hs.cd (fun ah=>?_) fun ah=>?_
   ·try simp only[B] at ah
    refine wp_skip<|aG<|wp_seq<|wp_block<|wp_seq<|wp_seq<|hs.dk ?_
    refine eK ?_
    refine .o (.c2 (yQ _ _ ht (rl _ (bx ah)))) ?_
    refine lY ?_
    refine du ?_
    refine .nil ?_
    intro I a w hs
    refine aG ?_
    refine hs.cd (fun aj=>?_) fun aj=>?_
    ·rw[Ip] at aj;replace aj:=nt aj
     refine az fun I a w hs=>?_
     refine nn<|wp_ret<|aE<|bh<|aE<|aE<|bh<|aE ?_
     refine hs.rt ?_
     exact bM (by unfold iu;rw[eP (f:=ku l time) ah (by rw[yS,aj];rfl)];rfl)
    ·rw[Ip] at aj;replace aj:=nf aj
     refine ai fun I a w hs=>?_
     refine nn<|wp_block ?_
     refine St.lo (σ:=Nat) (4::(run 2 6 (run 48 42 []))) ⟨fun k2=>[(7,AV.int k2),(6,AV.int (fo l k2 (ab l k).aC))],fun k2=>[],fun k2=>k2≤k∧∀i,i<k2→(fun j=>!ke (ab l j) (ab l k)) i=true⟩ (fun k2=>k-k2) 0 hs ?dT ?dU
     case dT=>exact⟨Nat.zero_le _,fun i hi=>by omega⟩
     case dU=>
      rintro k2 I a w al hs
      obtain⟨ua,im⟩:=al
      refine aB fun I a w hs=>?_
      refine nn ?_
      refine hs.cd (fun aI=>?_) fun aI=>?_
      ·try simp only[B] at aI
       refine az fun I a w hs=>?_
       refine aG ?_
       refine hs.cd (fun aL=>?_) fun aL=>?_
       ·try simp only[B] at aL
        refine wp_exit<|aF<|aY ?_
        refine aB fun I a w hs=>?_
        refine nn ?_
        refine hs.again (k2+1) ?gS ?gT (by rfl) ?gU (by repeat(first|exact Env.le_rfl|refine Env.ie rfl ?_))
        case gS=>omega
        case gT=>exact⟨by omega,fD im (by show(!ke (ab l k2) (ab l k))=true;rw[Qt aL];rfl)⟩
        case gU=>exact(Env.dI rfl (by rfl) (Env.dI rfl (by first|exact congrArg AV.int (by rw[p6 (by omega),if_neg aL])|exact congrArg AV.int (by rw[Io (aT k2 (by omega)),show(ab l k2).aC=(ab l k).aC by omega])) Env.le_nil))
       ·try simp only[B] at aL
        refine dq fun I a w hs=>?_
        refine aG ?_
        refine hs.cd (fun bf=>?_) fun bf=>?_
        ·rw[Iq (by omega)] at bf
         refine az fun I a w hs=>?_
         refine nn<|wp_ret<|bh<|aE<|aE<|bh<|aE<|bh<|aE<|aE<|bh<|aE ?_
         refine hs.rt ?_
         exact bM (by unfold iu;rw[eP (f:=ku l time) ah (by rw[yS,eP (f:=fun j=>!ke (ab l j) (ab l k)) (k:=k2) (by omega) (by rw[bf];rfl)];simp)];rfl)
        ·rw[Iq (by omega)] at bf
         refine aB fun I a w hs=>?_
         refine nn ?_
         refine hs.again (k2+1) ?nK ?nL (by rfl) ?nM (by repeat(first|exact Env.le_rfl|refine Env.ie rfl ?_))
         case nK=>omega
         case nL=>exact⟨by omega,fD im (by show(!ke (ab l k2) (ab l k))=true;rw[bf];rfl)⟩
         case nM=>exact(Env.dI rfl (by rfl) (Env.dI rfl (by first|exact congrArg AV.int (by rw[p6 (by omega),if_neg aL])|exact congrArg AV.int (by rw[Io (aT k2 (by omega)),show(ab l k2).aC=(ab l k).aC by omega])) Env.le_nil))
      ·try simp only[B] at aI
       refine wp_exit<|aF<|aF<|aY ?_
       refine cx fun I a w hs=>?_
       refine hs.o (jM .tt .c (fun _=>by have:=yE l k2 (ab l k).aC;omega)) fun hs=>?_
       refine hs.o .NL fun hs=>nn ?_
       refine hs.cd (fun aX=>?_) fun aX=>?_
       ·try simp only[B] at aX
        refine az fun I a w hs=>?_
        refine nn<|wp_ret<|bh<|aE<|aE<|bh<|aE ?_
        refine hs.rt ?_
        exact bM (by unfold iu;rw[eP (f:=ku l time) ah (by rw[yS,p6 ah,if_pos rfl,show((ab l k).num==fo l k (ab l k).aC+1)=false by(rw[show k2=k by omega] at aX;simpa using aX)];simp)];rfl)
       ·try simp only[B] at aX
        refine aB fun I a w hs=>?_
        refine nn ?_
        exact hs.ag (k+1) (⟨by omega,fD aT (by rw[yS,aj,eJ im (by omega)];simp only[Bool.true_and,Bool.and_true,beq_iff_eq];rw[p6 ah,if_pos rfl];rw[show k2=k by omega] at aX;omega)⟩)
   ·try simp only[B] at ah
    refine wp_exit<|aF<|aF<|aY ?_
    refine az fun I a w hs=>?_
    refine nn<|wp_ret ?_
    refine hs.rt ?_
    exact bM (by unfold iu;rw[eJ aT (by omega)];simp;omega)
theorem Is (x:be):(!aQ x.time 0 99999||((x.au.length:Int) !=4)||decide (60<(x.ao.length:Int))||((x.seen.length:Int) !=2)||!iu x.calls x.time)=!(wq x&&iu x.calls x.time):=by
 unfold wq;simp
theorem wE (l:List (List ar)):(!hasB wv l)=cO l.length fun i=>bT (ab l i):=by
 rw[wx];exact vD rfl fun i _=>by simp[wv]
theorem wF (l:List aD):(!hasB wu l)=cO l.length fun i=>bN (ab l i):=by
 rw[wx];exact vD rfl fun i _=>by simp[wu]
set_option maxHeartbeats 4000000 in
theorem Qu (x:be) (rl:∀q∈x.calls,q.ax.length≤1048576):
 Fn Tryz.prog 12 [x.av] (AV.bool (iR x)):=by
 refine Fn.intro 88 Tryz.func12 rfl Tryz.ntmps12 rfl (by kernel_rfl) (fun W I a hs=>?_)
 have lens:x.au.length≤9223372036854775807∧x.ao.length≤9223372036854775807∧x.calls.length≤9223372036854775807∧x.seen.length≤9223372036854775807:=by
  obtain⟨cs,_,hc⟩:=hs.env 0 _ rfl
  obtain⟨u1,_,h1,_⟩:=hc.get (i:=1) rfl
  obtain⟨u2,_,h2,_⟩:=hc.get (i:=2) rfl
  obtain⟨u3,_,h3,_⟩:=hc.get (i:=3) rfl
  obtain⟨u4,_,h4,_⟩:=hc.get (i:=4) rfl
  exact⟨bL h1,bL h2,bL h3,bL h4⟩
 refine aJ fun I a w hs=>?_
 refine hs.o (.cl (gP ..)) fun hs=>?_
 refine Ox fun I a w hs=>?_
 refine hs.q .F (GA (fun hg=>Ir x.calls x.time (by simp[aQ] at hg;omega) rl) (aw .ag (aw .ag aP))) fun hs=>?_
 refine ai fun I a w hs=>?_
 refine nn ?_
 refine hs.cd (fun ae=>?_) fun ae=>?_
 ·rw[Is] at ae;replace ae:=nt ae
  refine az fun I a w hs=>?_
  refine nn<|wp_ret<|aE ?_
  refine hs.rt ?_
  exact bM (by unfold iR;rw[wE,wF];revert ae;cases wq x<;>cases iu x.calls x.time<;>simp)
 ·rw[Is] at ae;replace ae:=nf ae
  refine az fun I a w hs=>?_
  refine nn<|wp_block ?_
  refine St.lo (σ:=Nat) (run 2 2 (run 24 36 [])) ⟨fun k=>[(3,AV.int k)],fun k=>[],fun k=>k≤x.au.length∧∀i,i<k→(rh x) i=true⟩ (fun k=>x.au.length-k) 0 hs ?aN ?aO
  case aN=>exact⟨Nat.zero_le _,fun i hi=>by omega⟩
  case aO=>
   rintro k I a w al hs
   obtain⟨pY,aT⟩:=al
   refine aW fun I a w hs=>?_
   refine nn ?_
   refine hs.cd (fun ah=>?_) fun ah=>?_
   ·try simp only[B] at ah
    refine aW fun I a w hs=>?_
    refine hs.o (.c1 (q4 ..)) fun hs=>?_
    refine qR fun I a w hs=>?_
    refine nn ?_
    refine hs.cd (fun aj=>?_) fun aj=>?_
    ·rw[HV] at aj;replace aj:=nt aj
     refine az fun I a w hs=>?_
     refine nn<|wp_ret<|bh<|aE<|aE<|bh<|aE ?_
     refine hs.rt ?_
     exact bM (by unfold iR;rw[wE,wF];rw[eP (f:=rh x) ah aj];simp)
    ·rw[HV] at aj;replace aj:=nf aj
     refine aB fun I a w hs=>?_
     refine nn ?_
     exact hs.ag (k+1) (⟨by omega,fD aT aj⟩)
   ·try simp only[B] at ah
    refine wp_exit<|aF<|aF<|aY ?_
    refine az fun I a w hs=>?_
    refine nn<|wp_block ?_
    refine St.lo (σ:=Nat) (2::(4::(run 14 60 []))) ⟨fun k2=>[(4,AV.int k2)],fun k2=>[],fun k2=>k2≤x.ao.length∧∀i,i<k2→(fun i=>bN (ab x.ao i)) i=true⟩ (fun k2=>x.ao.length-k2) 0 hs ?dT ?dU
    case dT=>exact⟨Nat.zero_le _,fun i hi=>by omega⟩
    case dU=>
     rintro k2 I a w al hs
     obtain⟨ua,im⟩:=al
     refine aW fun I a w hs=>?_
     refine nn ?_
     refine hs.cd (fun aI=>?_) fun aI=>?_
     ·try simp only[B] at aI
      refine aW fun I a w hs=>?_
      refine hs.o (.c1 (B5 ..)) fun hs=>hs.o .nt fun hs=>nn ?_
      refine hs.cd (fun aL=>?_) fun aL=>?_
      ·replace aL:=nt aL
       refine az fun I a w hs=>?_
       refine nn<|wp_ret<|bh<|aE<|aE<|bh<|aE ?_
       refine hs.rt ?_
       exact bM (by unfold iR;rw[wE,wF];rw[eP (f:=fun i=>bN (ab x.ao i)) aI aL];simp)
      ·replace aL:=nf aL
       refine aB fun I a w hs=>?_
       refine nn ?_
       exact hs.ag (k2+1) (⟨by omega,fD im aL⟩)
     ·try simp only[B] at aI
      refine wp_exit<|aF<|aF<|aY ?_
      refine az fun I a w hs=>?_
      refine nn<|wp_block ?_
      refine St.lo (σ:=Nat) (2::(5::(run 14 74 []))) ⟨fun k3=>[(5,AV.int k3)],fun k3=>[],fun k3=>k3≤x.seen.length∧∀i,i<k3→(fun i=>bT (ab x.seen i)) i=true⟩ (fun k3=>x.seen.length-k3) 0 hs ?iq ?ir
      case iq=>exact⟨Nat.zero_le _,fun i hi=>by omega⟩
      case ir=>
       rintro k3 I a w al hs
       obtain⟨Hl,qZ⟩:=al
       refine aW fun I a w hs=>?_
       refine nn ?_
       refine hs.cd (fun bf=>?_) fun bf=>?_
       ·try simp only[B] at bf
        refine aW fun I a w hs=>?_
        refine hs.o (.cl (oB ..)) fun hs=>?_
        refine hs.o .nt fun hs=>nn ?_
        refine hs.cd (fun aX=>?_) fun aX=>?_
        ·replace aX:=nt aX
         refine az fun I a w hs=>?_
         refine nn<|wp_ret<|bh<|aE<|aE<|bh<|aE ?_
         refine hs.rt ?_
         exact bM (by unfold iR;rw[wE,wF];rw[eP (f:=fun i=>bT (ab x.seen i)) bf aX];simp)
        ·replace aX:=nf aX
         refine aB fun I a w hs=>?_
         refine nn ?_
         exact hs.ag (k3+1) (⟨by omega,fD qZ aX⟩)
       ·try simp only[B] at bf
        refine wp_exit<|aF<|aF<|aY ?_
        refine az fun I a w hs=>?_
        refine nn<|wp_ret ?_
        refine hs.rt ?_
        exact bM (by unfold iR;rw[wE,wF];rw[eJ aT (by omega),eJ im (by omega),eJ qZ (by omega)];rw[Bool.and_eq_true] at ae;rw[ae.1,ae.2];rfl)
theorem uk {α β:Type} [Inhabited β] {f:α→β→α} {z:α} {l:List β} {k:Nat} (h:k<l.length):(l.take (k+1)).foldl f z=f ((l.take k).foldl f z) (ab l k):=by
 rw[dL h,List.foldl_append];rfl
theorem um {l:List Answer} (h:∀a∈l,dE a=true) (k:Nat):∀a∈l.take k,dE a=true:=fun a ha=>h a (List.mem_of_mem_take ha)
theorem Qv (q:Call) (hg:∀y∈q.ax,dE y=true):
 Fn Tryz.prog 206 [q.av] (bl (ez q)):=by
 refine Fn.intro 23 Tryz.func206 rfl Tryz.ntmps206 rfl (by kernel_rfl) (fun W I a hs=>?_)
 have lens:q.keys.length≤9223372036854775807∧q.ax.length≤9223372036854775807∧q.aM.length≤9223372036854775807:=by
  obtain⟨cs,_,hc⟩:=hs.env 0 _ rfl
  obtain⟨u1,_,h1,_⟩:=hc.get (i:=3) rfl
  obtain⟨u2,_,h2,_⟩:=hc.get (i:=11) rfl
  obtain⟨u3,_,h3,_⟩:=hc.get (i:=12) rfl
  exact⟨bL h1,bL h2,bL h3⟩
 refine ai fun I a w hs=>?_
 refine nn<|sr ?_
 refine hs.cT rfl bA bk (by decide) fun b5 I a w hs=>?_
 obtain⟨I,hs⟩:=hs.fr 0 5
 have hs:=hs.drop 0
 refine ai fun I a w hs=>?_
 refine nn<|wp_block ?_
 refine St.lo (σ:=Nat) (run 2 3 (run 16 6 [])) ⟨fun k=>[(4,AV.int k),(3,bl ((q.ax.take k).foldl kv []))],fun k=>[],fun k=>k≤q.ax.length⟩ (fun k=>q.ax.length-k) 0 hs ?aN ?aO
 case aN=>exact Nat.zero_le _
 case aO=>
  rintro k I a w al hs
  have hk:k≤q.ax.length:=al
  refine aW fun I a w hs=>?_
  refine nn ?_
  refine hs.cd (fun ae=>?_) fun ae=>?_
  ·try simp only[B] at ae
   refine gi fun I a w hs=>?_
   refine hs.o (.cl (Cw _ _ (qd (acc:=[]) rfl (um hg k)).1 (p9 (hg _ (bx ae))))) fun hs=>?_
   refine aJ fun I a w hs=>?_
   refine nn ?_
   refine hs.again (k+1) ?gS ?gT (by rfl) ?gU (by repeat(first|exact Env.le_rfl|refine Env.ie rfl ?_))
   case gS=>omega
   case gT=>exact ae
   case gU=>exact(Env.dI rfl (by rfl) (Env.dI rfl (by exact congrArg bl (by rw[uk ae];rfl)) Env.le_nil))
  ·try simp only[B] at ae
   refine wp_exit<|aF<|aF<|aY ?_
   refine ai fun I a w hs=>?_
   refine nn<|wp_ret ?_
   refine hs.rt ?_
   exact congrArg bl (by rw[List.take_of_length_le (by omega)];rfl)
theorem sL {q:Call} (h:gQ q=true) (hk:q.kind=1):0<q.keys.length:=by
 unfold gQ at h
 rw[Bool.and_eq_true] at h
 have:=h.2
 simp[hk] at this;omega
theorem Qw {q:Call} {t:Int} (h:eL q t=true) (hk:q.kind=1) (he:¬q.end_=0):jq ⟨ab q.keys 0,q.aA⟩=true:=by
 have hp:=yK h
 have fS:jr q.keys=true:=by have:=hp.2.2.1;unfold gQ at this;rw[Bool.and_eq_true] at this;exact this.1
 have h1:=ue fS (bx (sL hp.2.2.1 hk))
 simp only[eL,ka,Bool.and_eq_true] at h
 have cm:jz q.aA=true:=h.1.1.1.2
 have sq:=h.2
 unfold l9 at sq
 rw[if_neg he] at sq
 simp[hk] at sq
 simp only[jz,sq.2,Bool.false_or] at cm
 simp[jq,h1,cm]
set_option maxHeartbeats 4000000 in
theorem Qx (q:Call) (t:Int) (hq:eL q t=true) (ht:q.bm+q.end_≤4611686018427387904) (hl:-4611686018427387904≤q.end_) (rl:q.ax.length≤1048576):
 Fn Tryz.prog 179 [q.av] (bl (hP q)):=by
 refine Fn.intro 68 Tryz.func179 rfl Tryz.ntmps179 rfl (by kernel_rfl) (fun W I a hs=>?_)
 have lens:q.keys.length≤9223372036854775807∧q.ax.length≤9223372036854775807∧q.aM.length≤9223372036854775807:=by
  obtain⟨cs,_,hc⟩:=hs.env 0 _ rfl
  obtain⟨u1,_,h1,_⟩:=hc.get (i:=3) rfl
  obtain⟨u2,_,h2,_⟩:=hc.get (i:=11) rfl
  obtain⟨u3,_,h3,_⟩:=hc.get (i:=12) rfl
  exact⟨bL h1,bL h2,bL h3⟩
 have hp:=yK hq
 have gR:=(qd (acc:=[]) rfl hp.2.1).1
 have ep:=Cr hq
 have Qy:=gm hp.1
 have Qz:bT (iE q.ctx (ez q))=true:=uc hp.1 fun d hd=>nG gR hd
 have mb:=Qa hp.1 hp.2.1
 refine gi fun I a w hs=>?_
 refine hs.o (.c2 (yQ _ _ ht rl)) fun hs=>hs.o .nt fun hs=>nn ?_
 refine hs.cd (fun ae=>?_) fun ae=>?_
 ·exfalso;rw[ep] at ae;cases ae
  skip
 ·skip
  refine wp_skip<|aG<|sr ?_
  refine hs.cT rfl bA bk (by decide) fun oH I a w hs=>?_
  refine ai fun I a w hs=>?_
  refine hs.append 0 rfl bA bk rfl .tt .r rfl (by simp;omega) fun v17 a w hs=>?_
  obtain⟨I,hs⟩:=hs.fr 0 17
  have hs:=hs.drop 0
  refine aJ fun I a w hs=>?_
  refine nn ?_
  refine hs.cd (fun ah=>?_) fun ah=>?_
  ·try simp only[B] at ah
   refine ai fun I a w hs=>?_
   refine nn<|wp_ret<|aE ?_
   refine hs.rt ?_
   exact congrArg bl (by unfold hP;rw[if_pos ah])
  ·try simp only[B] at ah
   refine aB fun I a w hs=>?_
   refine nn ?_
   refine hs.cd (fun aj=>?_) fun aj=>?_
   ·try simp only[B] at aj
    refine wp_seq<|hs.dk ?_
    refine du ?_
    refine .o ((by first|exact eZ il fT .tt .c (fun _=>by have:=sL hp.2.2.1 aj;omega)|exact iM il fT .tt .c (fun _=>by have:=sL hp.2.2.1 aj;omega)|exact iX il fT .tt .c (fun _=>by have:=sL hp.2.2.1 aj;omega))) ?_
    refine du ?_
    refine .o (.bd eV (.k (.t aZ.nil))) ?_
    refine .o (.cl (Ct _ ⟨ab q.keys 0,q.aA⟩ hp.1 (Qw hq aj ah))) ?_
    refine bz ?_
    refine .nil ?_
    intro I a w hs
    refine aG<|wp_ret<|aE ?_
    refine hs.rt ?_
    exact congrArg bl (by unfold hP;rw[if_neg ah,if_pos aj])
   ·try simp only[B] at aj
    refine ai fun I a w hs=>?_
    refine hs.o (.c1 (Qv _ hp.2.1)) fun hs=>?_
    refine hs.o (.cl (Cw _ _ hp.1 gR)) fun hs=>?_
    refine ai fun I a w hs=>?_
    refine nn<|wp_block ?_
    refine St.lo (σ:=Nat) (run 2 3 (run 29 38 [])) ⟨fun k=>[(4,AV.int k),(3,bl ((q.ax.take k).foldl oI (iE q.ctx (ez q))))],fun k=>[],fun k=>k≤q.ax.length⟩ (fun k=>q.ax.length-k) 0 hs ?aN ?aO
    case aN=>exact Nat.zero_le _
    case aO=>
     rintro k I a w al hs
     have hk:k≤q.ax.length:=al
     refine aW fun I a w hs=>?_
     refine nn ?_
     refine hs.cd (fun aI=>?_) fun aI=>?_
     ·try simp only[B] at aI
      refine cx fun I a w hs=>?_
      refine nn ?_
      refine hs.cd (fun aL=>?_) fun aL=>?_
      ·try simp only[B] at aL
       refine hs.dk ?_
       refine pT ?_
       refine .o (.bd eV (.k (.t aZ.nil))) ?_
       refine .o (cI (Ct _ ⟨(ab q.ax k).key,(ab q.ax k).bG.aA⟩ (yI Qz (um hp.2.1 k)).1 (by have:=wz (hp.2.1 _ (bx aI)) aL;rw[←this.2];exact this.1)) (aw .r (aw (.t rfl) aP))) ?_
       refine bz ?_
       refine .nil ?_
       intro I a w hs
       refine aB fun I a w hs=>?_
       refine nn ?_
       refine hs.again (k+1) ?gS ?gT (by rfl) ?gU (by repeat(first|exact Env.le_rfl|refine Env.ie rfl ?_))
       case gS=>omega
       case gT=>exact aI
       case gU=>exact(Env.dI rfl (by rfl) (Env.dI rfl (by exact congrArg bl (by rw[uk aI];unfold oI;rw[aL];rfl)) Env.le_nil))
      ·try simp only[B] at aL
       refine aB fun I a w hs=>?_
       refine nn ?_
       refine hs.again (k+1) ?nK ?nL (by rfl) ?nM (by repeat(first|exact Env.le_rfl|refine Env.ie rfl ?_))
       case nK=>omega
       case nL=>exact aI
       case nM=>exact(Env.dI rfl (by rfl) (Env.dI rfl (by exact congrArg bl (by rw[uk aI];unfold oI;rw[aL];rfl)) Env.le_nil))
     ·try simp only[B] at aI
      refine wp_exit<|aF<|aF<|aY ?_
      refine ai fun I a w hs=>?_
      refine nn<|wp_ret ?_
      refine hs.rt ?_
      exact congrArg bl (by rw[List.take_of_length_le (by omega),←mb];unfold Cp;rw[if_neg ah,if_neg aj])
set_option maxHeartbeats 4000000 in
theorem QA (q:Call) (t:Int) (hq:eL q t=true):
 Fn Tryz.prog 170 [q.av] (bl (hP q)):=by
 refine Fn.intro 45 Tryz.func170 rfl Tryz.ntmps170 rfl (by kernel_rfl) (fun W I a hs=>?_)
 have lens:q.keys.length≤9223372036854775807∧q.ax.length≤9223372036854775807∧q.aM.length≤9223372036854775807:=by
  obtain⟨cs,_,hc⟩:=hs.env 0 _ rfl
  obtain⟨u1,_,h1,_⟩:=hc.get (i:=3) rfl
  obtain⟨u2,_,h2,_⟩:=hc.get (i:=11) rfl
  obtain⟨u3,_,h3,_⟩:=hc.get (i:=12) rfl
  exact⟨bL h1,bL h2,bL h3⟩
 have hp:=yK hq
 have Qy:=gm hp.1
 refine aJ fun I a w hs=>?_
 refine hs.o (cI (qe q.ctx (by omega)) (aw .r aP)) fun hs=>?_
 refine aJ fun I a w hs=>?_
 refine nn ?_
 refine hs.cd (fun ae=>?_) fun ae=>?_
 ·try simp only[B] at ae
  refine ai fun I a w hs=>?_
  refine nn<|wp_ret<|aE ?_
  refine hs.rt ?_
  exact congrArg bl (by unfold hP;rw[if_pos ae])
 ·try simp only[B] at ae
  refine aB fun I a w hs=>?_
  refine nn ?_
  refine hs.cd (fun ah=>?_) fun ah=>?_
  ·try simp only[B] at ah
   refine wp_seq<|hs.dk ?_
   refine du ?_
   refine .o ((by first|exact eZ il fT .tt .c (fun _=>by have:=sL hp.2.2.1 ah;omega)|exact iM il fT .tt .c (fun _=>by have:=sL hp.2.2.1 ah;omega)|exact iX il fT .tt .c (fun _=>by have:=sL hp.2.2.1 ah;omega))) ?_
   refine du ?_
   refine .o (.bd eV (.k (.t aZ.nil))) ?_
   refine .o (.cl (Cs _ ⟨ab q.keys 0,q.aA⟩ hp.1)) ?_
   refine bz ?_
   refine .nil ?_
   intro I a w hs
   refine aG<|wp_ret<|aE ?_
   refine hs.rt ?_
   exact congrArg bl (by unfold hP;rw[if_neg ae,if_pos ah])
  ·try simp only[B] at ah
   refine aJ fun I a w hs=>?_
   refine nn<|wp_block ?_
   refine St.lo (σ:=Nat) (3::(5::(run 16 28 []))) ⟨fun k=>[(28,AV.int k),(3,bl ((q.ax.take k).foldl ma q.ctx))],fun k=>[],fun k=>k≤q.ax.length⟩ (fun k=>q.ax.length-k) 0 hs ?aN ?aO
   case aN=>exact Nat.zero_le _
   case aO=>
    rintro k I a w al hs
    have hk:k≤q.ax.length:=al
    refine az fun I a w hs=>?_
    refine nn<|wp_seq ?_
    refine hs.cd (fun aj=>?_) fun aj=>?_
    ·try simp only[B] at aj
     refine ai fun I a w hs=>?_
     refine hs.alloc rfl dC mL fun b5 I a w hs=>?_
     refine hs.sb 0 fun hs=>?_
     obtain⟨I,hs⟩:=hs.fb 0 5
     refine ai fun I a w hs=>?_
     refine nn ?_
     refine hs.cd (fun aI=>?_) fun aI=>?_
     ·try simp only[B] at aI
      refine hs.dk ?_
      refine de ?_
      refine .o (.cl (H4 _ _ (uj hp.1 (um hp.2.1 k)).1 (p9 (hp.2.1 _ (bx aj))))) ?_
      refine cq ?_
      refine .o (.c1 (l4 ..)) ?_
      refine .o (.cl (Cs _ _ (uc (uj hp.1 (um hp.2.1 k)).1 fun d hd=>nG (p9 (hp.2.1 _ (bx aj))) hd))) ?_
      refine bz ?_
      refine .nil ?_
      intro I a w hs
      refine ai fun I a w hs=>?_
      refine nn ?_
      have hs:=hs.drop 0
      refine hs.again (k+1) ?gS ?gT (by rfl) ?gU (by repeat(first|exact Env.le_rfl|refine Env.ie rfl ?_))
      case gS=>omega
      case gT=>exact aj
      case gU=>exact(Env.dI rfl (by rfl) (Env.dI rfl (by exact congrArg bl (by rw[uk aj];unfold ma;rw[aI];rfl)) Env.le_nil))
     ·try simp only[B] at aI
      refine ai fun I a w hs=>?_
      refine nn ?_
      have hs:=hs.drop 0
      refine hs.again (k+1) ?nK ?nL (by rfl) ?nM (by repeat(first|exact Env.le_rfl|refine Env.ie rfl ?_))
      case nK=>omega
      case nL=>exact aj
      case nM=>exact(Env.dI rfl (by rfl) (Env.dI rfl (by exact congrArg bl (by rw[uk aj];unfold ma;rw[aI];rfl)) Env.le_nil))
    ·try simp only[B] at aj
     refine wp_exit<|aF<|aF<|aY ?_
     refine ai fun I a w hs=>?_
     refine nn<|wp_ret ?_
     refine hs.rt ?_
     exact congrArg bl (by rw[List.take_of_length_le (by omega)];unfold hP;rw[if_neg ae,if_neg ah])
end Go.Proofs.YtoeioeimmfpefaaGreat
