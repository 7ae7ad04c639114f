/- Part 20: rules of the proofs, contracts of functions, plain facts. -/
import Derived.Test.YtoeioeimmfpefaaGreatP18
set_option linter.unusedVariables false
set_option linter.unusedSimpArgs false
set_option maxRecDepth 100000
set_option maxHeartbeats 4000000
namespace Go.Proofs.YtoeioeimmfpefaaGreat
open Go Go.RowKit
attribute [local irreducible] wpList Code.wp Ok
theorem Qf (l:List Int) (key:Int):
 Fn Tryz.prog 192 [gh l,AV.int key] (AV.int (dm (q6 key) l)):=by
 refine Fn.intro 19 Tryz.func192 rfl Tryz.ntmps192 rfl (by kernel_rfl) (fun W I a hs=>?_)
 have hle:=hs.ew (t:=0) rfl
 refine aJ fun I a w hs=>?_
 refine nn<|wp_block ?_
 refine St.lo (σ:=Nat) (run 2 4 (run 11 8 [])) ⟨fun k=>[(8,AV.int k)],fun k=>[],fun k=>k≤l.length∧∀i,i<k→q6 key (ab l i)=false⟩ (fun k=>l.length-k) 0 hs ?aN ?aO
 case aN=>exact⟨Nat.zero_le _,fun i hi=>by omega⟩
 case aO=>
  rintro k I a w al hs
  obtain⟨hk,aT⟩:=al
  refine az fun I a w hs=>?_
  refine nn<|wp_seq ?_
  refine hs.cd (fun ae=>?_) fun ae=>?_
  ·try simp only[B] at ae
   refine gi fun I a w hs=>?_
   refine nn ?_
   refine hs.cd (fun ah=>?_) fun ah=>?_
   ·rw[show(key==ab l k)=q6 key (ab l k) from Bool.beq_comm] at ah
    refine ai fun I a w hs=>?_
    refine nn<|wp_ret<|bh<|aE<|aE<|bh<|aE ?_
    refine hs.rt ?_
    exact fk (mM ae aT ah).symm
   ·rw[show(key==ab l k)=q6 key (ab l k) from Bool.beq_comm] at ah
    refine ai fun I a w hs=>?_
    refine nn ?_
    exact hs.ag (k+1) (⟨by omega,fun i h1=>by rcases Nat.lt_succ_iff_lt_or_eq.1 h1 with h|h;exact aT i h;rw[h];exact ah⟩)
  ·try simp only[B] at ae
   refine wp_exit<|aF<|aF<|aY ?_
   refine az fun I a w hs=>?_
   refine nn<|wp_ret ?_
   refine hs.rt ?_
   exact fk (l5 (by omega) aT).symm
theorem H8 (l:List Int) (key:Int):
 Fn Tryz.prog 157 [gh l,AV.int key] (AV.bool (fQ l key)):=by
 refine Fn.intro 9 Tryz.func157 rfl Tryz.ntmps157 rfl (by kernel_rfl) (fun W I a hs=>?_)
 refine aB fun I a w hs=>?_
 refine hs.o (.cl (Qf l key)) fun hs=>?_
 refine ai fun I a w hs=>?_
 refine nn<|wp_ret ?_
 refine hs.rt ?_
 rfl
theorem H9 (l:List Int) (key:Int):
 Fn Tryz.prog 122 [gh l,AV.int key] (AV.bool (fQ l key)):=by
 refine Fn.intro 18 Tryz.func122 rfl Tryz.ntmps122 rfl (by kernel_rfl) (fun W I a hs=>?_)
 have hle:=hs.ew (t:=0) rfl
 refine ai fun I a w hs=>?_
 refine nn<|wp_block ?_
 refine St.lo (σ:=Nat) (run 14 4 []) ⟨fun k=>[(5,AV.int k)],fun k=>[],fun k=>k≤l.length∧∀i,i<k→q6 key (ab l i)=false⟩ (fun k=>l.length-k) 0 hs ?aN ?aO
 case aN=>exact⟨Nat.zero_le _,fun i hi=>by omega⟩
 case aO=>
  rintro k I a w al hs
  obtain⟨hk,aT⟩:=al
  refine aJ fun I a w hs=>?_
  refine nn ?_
  refine hs.cd (fun ae=>?_) fun ae=>?_
  ·try simp only[B] at ae
   refine cx fun I a w hs=>?_
   refine nn ?_
   refine hs.cd (fun ah=>?_) fun ah=>?_
   ·skip
    refine az fun I a w hs=>?_
    refine nn<|wp_ret<|bh<|aE<|aE<|bh<|aE ?_
    refine hs.rt ?_
    exact bM (yy (bx ae) ah).symm
   ·skip
    refine aB fun I a w hs=>?_
    refine nn ?_
    exact hs.ag (k+1) (⟨by omega,fun i h1=>by rcases Nat.lt_succ_iff_lt_or_eq.1 h1 with h|h;exact aT i h;rw[h];exact ah⟩)
  ·try simp only[B] at ae
   refine wp_exit<|aF<|aF<|aY ?_
   refine az fun I a w hs=>?_
   refine nn<|wp_ret ?_
   refine hs.rt ?_
   exact bM (by unfold fQ hasB;rw[l5 (by omega) aT];rfl)
theorem Ia (x:Answer) (key:Int):
 Fn Tryz.prog 194 [x.av,AV.ptr [AV.int key]] (AV.bool (p5 key x)):=by
 refine Fn.intro 8 Tryz.func194 rfl Tryz.ntmps194 rfl (by kernel_rfl) (fun W I a hs=>?_)
 refine dq fun I a w hs=>?_
 refine nn<|wp_ret ?_
 refine hs.rt ?_
 rfl
theorem Ib (q:Call) (key:Int):
 Fn Tryz.prog 159 [q.av,AV.int key] (AV.int (cz q key)):=by
 refine Fn.intro 9 Tryz.func159 rfl Tryz.ntmps159 rfl (by kernel_rfl) (fun W I a hs=>?_)
 refine az fun I a w hs=>?_
 refine hs.o (tH .tt (by first|exact iY rfl|exact jj|exact jk|exact jl)) fun hs=>?_
 refine aB fun I a w hs=>?_
 refine hs.o (lQ (aw .tt aP)) fun hs=>?_
 refine hs.o (.cl (Hg q.ax (p5 key) _ (fun v _=>Fn.val (Ia v key)))) fun hs=>?_
 refine hs.s fun hs=>nn<|wp_ret ?_
 refine hs.rt ?_
 rfl
theorem yM (q:Call) (key:Int):
 Fn Tryz.prog 123 [q.av,AV.int key] (AV.int (cz q key)):=by
 refine Fn.intro 22 Tryz.func123 rfl Tryz.ntmps123 rfl (by kernel_rfl) (fun W I a hs=>?_)
 have lens:q.keys.length≤9223372036854775807∧q.ax.length≤9223372036854775807∧q.aM.length≤9223372036854775807:=by
  obtain⟨cs,_,hc⟩:=hs.env 0 _ rfl
  obtain⟨u1,_,h1,_⟩:=hc.get (i:=3) rfl
  obtain⟨u2,_,h2,_⟩:=hc.get (i:=11) rfl
  obtain⟨u3,_,h3,_⟩:=hc.get (i:=12) rfl
  exact⟨bL h1,bL h2,bL h3⟩
 refine aB fun I a w hs=>?_
 refine nn<|wp_block ?_
 refine St.lo (σ:=Nat) (run 18 4 []) ⟨fun k=>[(5,AV.int k)],fun k=>[],fun k=>k≤q.ax.length∧∀i,i<k→p5 key (ab q.ax i)=false⟩ (fun k=>q.ax.length-k) 0 hs ?aN ?aO
 case aN=>exact⟨Nat.zero_le _,fun i hi=>by omega⟩
 case aO=>
  rintro k I a w al hs
  obtain⟨hk,aT⟩:=al
  refine aW fun I a w hs=>?_
  refine nn ?_
  refine hs.cd (fun ae=>?_) fun ae=>?_
  ·try simp only[B] at ae
   refine gi fun I a w hs=>?_
   refine nn ?_
   refine hs.cd (fun ah=>?_) fun ah=>?_
   ·skip
    refine ai fun I a w hs=>?_
    refine nn<|wp_ret<|bh<|aE<|aE<|bh<|aE ?_
    refine hs.rt ?_
    exact fk (mM ae aT ah).symm
   ·skip
    refine aB fun I a w hs=>?_
    refine nn ?_
    exact hs.ag (k+1) (⟨by omega,fun i h1=>by rcases Nat.lt_succ_iff_lt_or_eq.1 h1 with h|h;exact aT i h;rw[h];exact ah⟩)
  ·try simp only[B] at ae
   refine wp_exit<|aF<|aF<|aY ?_
   refine az fun I a w hs=>?_
   refine nn<|wp_ret ?_
   refine hs.rt ?_
   exact fk (l5 (by omega) aT).symm
theorem Ic (x:Answer) (s:ct):
 Fn Tryz.prog 160 [x.av,s.av] (AV.bool (l8 x s)):=by
 refine Fn.intro 15 Tryz.func160 rfl Tryz.ntmps160 rfl (by kernel_rfl) (fun W I a hs=>?_)
 refine qR fun I a w hs=>?_
 refine hs.q .F (.cl (BW ..)) fun hs=>?_
 refine ai fun I a w hs=>?_
 refine nn<|wp_ret ?_
 refine hs.rt ?_
 rfl
theorem Ie (q:Call):
 Fn Tryz.prog 119 [q.av] (AV.bool (mQ q)):=by
 refine Fn.intro 10 Tryz.func119 rfl Tryz.ntmps119 rfl (by kernel_rfl) (fun W I a hs=>?_)
 refine kq fun I a w hs=>?_
 refine nn<|wp_ret ?_
 refine hs.rt ?_
 rfl
def rk (u v:aK):Bool:=!((u.key !=v.key)||([u.aA.time,u.aA.site] !=[v.aA.time,v.aA.site])||(u.val !=v.val)||(u.aC !=v.aC)||(u.call !=v.call)||((u.aS.length:Int) !=v.aS.length))
def yN (u v:aK) (i:Nat):Bool:=decide (ab u.aS i=ab v.aS i)
theorem Qg {α:Type} [Inhabited α] {l m:List α} (h:l.length=m.length) (he:∀i,i<l.length→ab l i=ab m i):l=m:=by
 apply List.ext_getElem h
 intro i h1 h2
 have:=he i h1
 simpa[ab,h1,h2] using this
theorem Cx (u v:aK):oG u v=(rk u v&&cO u.aS.length (yN u v)):=by
 rw[Bool.eq_iff_iff,Bool.and_eq_true,iy]
 obtain⟨a1,⟨a2,a3⟩,a4,a5,a6,a7⟩:=u
 obtain⟨b1,⟨b2,b3⟩,b4,b5,b6,b7⟩:=v
 simp only[oG,rk,yN,decide_eq_true_eq]
 constructor
 ·intro h
  simp at h
  obtain⟨rfl,⟨rfl,rfl⟩,rfl,rfl,rfl,rfl⟩:=h
  simp
 ·rintro⟨h1,h2⟩
  simp at h1 h2
  have:a7=b7:=Qg (by omega) h2
  simp[this];omega
theorem If (d e:ar):([d.key,d.aA.time,d.aA.site] !=[e.key,e.aA.time,e.aA.site])=!decide (d=e):=by
 obtain⟨k,⟨t,s⟩⟩:=d
 obtain⟨k',⟨t',s'⟩⟩:=e
 rw[Bool.eq_iff_iff];simp;omega
theorem yO (s:ct):([s.time,s.site] !=[0,0])=!dR s:=by
 rw[Bool.eq_iff_iff];simp[dR];omega
theorem yP (s:ct):([s.time,s.site]==[0,0])=dR s:=by
 rw[Bool.eq_iff_iff];simp[dR]
theorem Ig (q:Call):(((q.kind==1)&&decide (0<(q.ax.length:Int)+q.aM.length))||(!(q.kind==1)&&((q.val !=0)||!dR q.aA)))=!ud q:=by simp[ud]
theorem Qh {q:Call} {time:Int} (h:ka q time=true):1≤q.bm∧q.bm≤time:=by
 simp only[ka,Bool.and_eq_true] at h
 have:=h.1.1.2
 simp[aQ] at this;exact this
theorem Qi {q:Call} {time:Int} (h:ka q time=true):q.ax.length≤3∧q.aM.length≤6:=by
 simp only[ka,mR,Bool.and_eq_true] at h
 have hk:gQ q=true:=h.1.1.1.1.1.1.2
 have hd:bT q.aM=true:=h.1.1.1.2
 have hg:lq q=true:=h.2.1.1
 have h3:q.keys.length≤3:=by
  unfold gQ at hk
  rw[Bool.and_eq_true] at hk
  have:=hk.2
  simp[aQ] at this;omega
 have yC:jr q.keys=true:=by unfold gQ at hk;rw[Bool.and_eq_true] at hk;exact hk.1
 have:=Ck yC hg
 exact⟨by omega,gm hd⟩
theorem Ih (q:Call) (k:Nat):(!sH (ab q.ax k)||!fQ q.keys (ab q.ax k).key||(decide (0<(k:Int))&&decide ((ab q.ax k).key≤(ab q.ax ((k:Int)-1).toNat).key)))=!q8 q k:=by
 unfold q8
 rw[Bool.or_assoc,Ch];simp
theorem Ii (q:Call) (k:Nat):(decide (cz q (ab q.aM k).key<0)||!cY (ab q.ax (cz q (ab q.aM k).key).toNat).bG.aA (ab q.aM k).aA)=!q9 q k:=by
 unfold q9
 have e:decide (cz q (ab q.aM k).key<0)=!decide (0≤cz q (ab q.aM k).key):=by rw[Bool.eq_iff_iff];simp
 rw[e];simp
theorem Qj (x:Answer) (h:x.yes=false):(cU x.key&&(x.bG.key==0)&&(x.bG.val==0)&&(x.bG.aC==0)&&(x.bG.call==0)&&dR x.bG.aA&&((x.bG.aS.length:Int)==0))=sH x:=by
 unfold sH
 rw[h]
 obtain⟨k,y,⟨vk,⟨t,s⟩,vv,vc,vl,vd⟩⟩:=x
 simp only[oG,q5,dR]
 rw[Bool.eq_iff_iff]
 simp
 constructor
 ·rintro⟨⟨⟨⟨⟨⟨h1,h2⟩,h3⟩,h4⟩,h5⟩,h6⟩,h7⟩
  exact⟨h1,h2,h6,h3,h4,h5,h7⟩
 ·rintro⟨h1,h2,h6,h3,h4,h5,h7⟩
  exact⟨⟨⟨⟨⟨⟨h1,h2⟩,h3⟩,h4⟩,h5⟩,h6⟩,h7⟩
theorem Cy {u v:aK} (h:rk u v=true):u.aS.length=v.aS.length:=by
 simp only[rk,Bool.not_eq_true',Bool.or_eq_false_iff] at h
 have:=h.2
 simp at this;omega
set_option maxHeartbeats 4000000 in
theorem Qk (u v:aK):
 Fn Tryz.prog 158 [u.av,v.av] (AV.bool (oG u v)):=by
 refine Fn.intro 65 Tryz.func158 rfl Tryz.ntmps158 rfl (by kernel_rfl) (fun W I a hs=>?_)
 have lens:u.aS.length≤9223372036854775807∧v.aS.length≤9223372036854775807:=by
  obtain⟨cs,_,hc⟩:=hs.env 0 _ rfl
  obtain⟨u1,_,h1,_⟩:=hc.get (i:=6) rfl
  obtain⟨Ql,_,lP⟩:=hs.env 1 _ rfl
  obtain⟨u2,_,h2,_⟩:=lP.get (i:=6) rfl
  exact⟨bL h1,bL h2⟩
 refine nz fun I a w hs=>?_
 refine hs.q .F (r6 [_,_] [_,_] l3 rfl rfl .ag .ag) fun hs=>?_
 refine OA fun I a w hs=>?_
 refine nn ?_
 refine hs.cd (fun ae=>?_) fun ae=>?_
 ·replace ae:rk u v=false:=by unfold rk;rw[ae];rfl
  refine az fun I a w hs=>?_
  refine nn<|wp_ret<|aE ?_
  refine hs.rt ?_
  exact bM (by rw[Cx,ae];rfl)
 ·replace ae:rk u v=true:=by unfold rk;rw[ae];rfl
  refine aJ fun I a w hs=>?_
  refine nn<|wp_block ?_
  refine St.lo (σ:=Nat) (run 3 4 (run 13 52 [])) ⟨fun k=>[(52,AV.int k)],fun k=>[],fun k=>k≤u.aS.length∧∀i,i<k→(yN u v) i=true⟩ (fun k=>u.aS.length-k) 0 hs ?aN ?aO
  case aN=>exact⟨Nat.zero_le _,fun i hi=>by omega⟩
  case aO=>
   rintro k I a w al hs
   obtain⟨pY,aT⟩:=al
   refine az fun I a w hs=>?_
   refine nn<|wp_seq ?_
   refine hs.cd (fun ah=>?_) fun ah=>?_
   ·try simp only[B] at ah
    refine aB fun I a w hs=>?_
    refine hs.alloc rfl bk eV fun b6 I a w hs=>?_
    refine ai fun I a w hs=>?_
    obtain⟨I,hs⟩:=hs.fb 0 6
    refine nn<|wp_seq<|hs.dk ?_
    refine de ?_
    refine .o ((by first|exact eZ bA bk .tt .tt (fun _=>by have:=Cy ae;omega)|exact iM bA bk .tt .tt (fun _=>by have:=Cy ae;omega)|exact iX bA bk .tt .tt (fun _=>by have:=Cy ae;omega))) ?_
    refine bz ?_
    refine .o (r6 [_,_,_] [_,_,_] tU rfl rfl .tt .tt)<|.nil ?_
    intro I a w hs
    refine aG ?_
    refine hs.cd (fun aj=>?_) fun aj=>?_
    ·rw[If] at aj;replace aj:=nt aj
     refine az fun I a w hs=>?_
     refine nn<|wp_ret<|bh<|aE<|aE<|bh<|aE ?_
     refine hs.rt ?_
     exact bM (by rw[Cx,eP (f:=yN u v) ah aj];simp)
    ·rw[If] at aj;replace aj:=nf aj
     refine ai fun I a w hs=>?_
     refine nn ?_
     have hs:=hs.drop 0
     exact hs.ag (k+1) (⟨by omega,fD aT aj⟩)
   ·try simp only[B] at ah
    refine wp_exit<|aF<|aF<|aY ?_
    refine az fun I a w hs=>?_
    refine nn<|wp_ret ?_
    refine hs.rt ?_
    exact bM (by rw[Cx,ae,eJ aT (by omega)];rfl)
theorem Qm (q:Call):
 Fn Tryz.prog 117 [q.av] (AV.bool (gQ q)):=by
 refine Fn.intro 40 Tryz.func117 rfl Tryz.ntmps117 rfl (by kernel_rfl) (fun W I a hs=>?_)
 have lens:q.keys.length≤9223372036854775807∧q.ax.length≤9223372036854775807∧q.aM.length≤9223372036854775807:=by
  obtain⟨cs,_,hc⟩:=hs.env 0 _ rfl
  obtain⟨u1,_,h1,_⟩:=hc.get (i:=3) rfl
  obtain⟨u2,_,h2,_⟩:=hc.get (i:=11) rfl
  obtain⟨u3,_,h3,_⟩:=hc.get (i:=12) rfl
  exact⟨bL h1,bL h2,bL h3⟩
 refine dq fun I a w hs=>?_
 refine nn<|wp_block ?_
 refine St.lo (σ:=Nat) (run 2 2 (5::(run 11 9 []))) ⟨fun k=>[(9,AV.int k),(3,AV.int (q7 q.keys k))],fun k=>[],fun k=>k≤q.keys.length∧∀i,i<k→ee cU l7 q.keys i=true⟩ (fun k=>q.keys.length-k) 0 hs ?aN ?aO
 case aN=>exact⟨Nat.zero_le _,fun i hi=>by omega⟩
 case aO=>
  rintro k I a w al hs
  obtain⟨hk,aT⟩:=al
  refine az fun I a w hs=>?_
  refine nn<|wp_seq ?_
  refine hs.cd (fun ae=>?_) fun ae=>?_
  ·try simp only[B] at ae
   refine aW fun I a w hs=>?_
   refine hs.o (jM .tt .c (fun _=>by have:=HC aT;omega)) fun hs=>?_
   refine hs.o (.cl (hC ..)) fun hs=>?_
   refine hs.o .nt fun hs=>nn ?_
   refine hs.cd (fun ah=>?_) fun ah=>?_
   ·rw[HD aT] at ah;replace ah:=nt ah
    refine az fun I a w hs=>?_
    refine nn<|wp_ret<|aE<|bh<|aE<|aE<|bh<|aE ?_
    refine hs.rt ?_
    exact bM (by unfold gQ jr;rw[eP (f:=ee cU l7 q.keys) ae ah];rfl)
   ·rw[HD aT] at ah;replace ah:=nf ah
    refine aJ fun I a w hs=>?_
    refine nn ?_
    refine hs.again (k+1) ?gS ?gT (by rfl) ?gU (by repeat(first|exact Env.le_rfl|refine Env.ie rfl ?_))
    case gS=>omega
    case gT=>exact⟨by omega,fD aT ah⟩
    case gU=>exact(Env.dI rfl (by rfl) (Env.dI rfl (by exact congrArg AV.int (PY _ _).symm) Env.le_nil))
  ·try simp only[B] at ae
   refine wp_exit<|aF<|aF<|aY ?_
   refine vZ fun I a w hs=>?_
   refine hs.q .T2 (.cl (hC ..)) fun hs=>?_
   refine aB fun I a w hs=>?_
   refine nn<|wp_ret ?_
   refine hs.rt ?_
   exact bM (by unfold gQ jr;rw[eJ aT (by omega)];rfl)
set_option maxHeartbeats 4000000 in
theorem Qn (q:Call):
 Fn Tryz.prog 118 [q.av] (AV.bool (mR q)):=by
 refine Fn.intro 100 Tryz.func118 rfl Tryz.ntmps118 rfl (by kernel_rfl) (fun W I a hs=>?_)
 have lens:q.keys.length≤9223372036854775807∧q.ax.length≤9223372036854775807∧q.aM.length≤9223372036854775807:=by
  obtain⟨cs,_,hc⟩:=hs.env 0 _ rfl
  obtain⟨u1,_,h1,_⟩:=hc.get (i:=3) rfl
  obtain⟨u2,_,h2,_⟩:=hc.get (i:=11) rfl
  obtain⟨u3,_,h3,_⟩:=hc.get (i:=12) rfl
  exact⟨bL h1,bL h2,bL h3⟩
 refine cx fun I a w hs=>?_
 refine nn<|wp_block ?_
 refine St.lo (σ:=Nat) (run 3 2 (run 56 11 [])) ⟨fun k=>[(11,AV.int k)],fun k=>[],fun k=>k≤q.ax.length∧∀i,i<k→(mP q) i=true⟩ (fun k=>q.ax.length-k) 0 hs ?aN ?aO
 case aN=>exact⟨Nat.zero_le _,fun i hi=>by omega⟩
 case aO=>
  rintro k I a w al hs
  obtain⟨pY,aT⟩:=al
  refine az fun I a w hs=>?_
  refine nn<|wp_seq ?_
  refine hs.cd (fun ae=>?_) fun ae=>?_
  ·try simp only[B] at ae
   refine aB fun I a w hs=>?_
   refine hs.alloc rfl dC mL fun b4 I a w hs=>?_
   refine ai fun I a w hs=>?_
   obtain⟨I,hs⟩:=hs.fb 0 4
   refine nn<|wp_seq<|wp_seq<|hs.dk ?_
   refine de ?_
   refine .o (.cl (H8 ..)) ?_
   refine lY ?_
   refine bz ?_
   refine .nil ?_
   intro I a w hs
   refine aG ?_
   refine hs.cd (fun ah=>?_) fun ah=>?_
   ·rw[Ch] at ah;replace ah:=nt ah
    refine az fun I a w hs=>?_
    refine nn<|wp_ret<|aE<|bh<|aE<|aE<|bh<|aE ?_
    refine hs.rt ?_
    exact bM (by unfold mR lq;rw[eP (f:=mP q) ae (by unfold mP;rw[ah];rfl)];rfl)
   ·rw[Ch] at ah;replace ah:=nf ah
    refine aW fun I a w hs=>?_
    refine hs.q .T (.cl (BZ ..)) fun hs=>?_
    refine vZ fun I a w hs=>?_
    refine hs.q .T2 (.bd dO aZ.nil) fun hs=>?_
    refine hs.q .T2 (.cl (Qk _ q5)) fun hs=>?_
    refine aB fun I a w hs=>?_
    refine nn ?_
    refine hs.cd (fun aj=>?_) fun aj=>?_
    ·rw[HF] at aj;replace aj:=nt aj
     refine az fun I a w hs=>?_
     refine nn<|wp_ret<|bh<|aE<|aE<|bh<|aE ?_
     refine hs.rt ?_
     exact bM (by unfold mR lq;rw[eP (f:=mP q) ae (by unfold mP;rw[ah,aj];rfl)];rfl)
    ·rw[HF] at aj;replace aj:=nf aj
     refine ai fun I a w hs=>?_
     refine nn ?_
     have hs:=hs.drop 0
     exact hs.ag (k+1) (⟨by omega,fD aT (by unfold mP;rw[ah,aj];rfl)⟩)
  ·try simp only[B] at ae
   refine wp_exit<|aF<|aF<|aY ?_
   refine aJ fun I a w hs=>?_
   refine nn<|wp_block ?_
   refine St.lo (σ:=Nat) (2::(run 2 6 (run 22 70 []))) ⟨fun k2=>[(70,AV.int k2)],fun k2=>[],fun k2=>k2≤q.aM.length∧∀i,i<k2→(nH q) i=true⟩ (fun k2=>q.aM.length-k2) 0 hs ?dT ?dU
   case dT=>exact⟨Nat.zero_le _,fun i hi=>by omega⟩
   case dU=>
    rintro k2 I a w al hs
    obtain⟨ua,im⟩:=al
    refine az fun I a w hs=>?_
    refine nn<|wp_seq ?_
    refine hs.cd (fun aI=>?_) fun aI=>?_
    ·try simp only[B] at aI
     refine ai fun I a w hs=>?_
     refine hs.alloc rfl bk eV fun b6 I a w hs=>?_
     refine hs.sb 0 fun hs=>?_
     obtain⟨I,hs⟩:=hs.fb 0 6
     refine aB fun I a w hs=>?_
     refine hs.o (.c2 (Ib ..)) fun hs=>hs.s fun hs=>nn<|wp_seq<|hs.dk ?_
     refine fP ?_
     refine .q .F ((by first|exact eZ ef dC .ag .ag (fun hg=>by have h0:0≤cz q (ab q.aM k2).key:=(by simpa using hg);have:=ra h0;omega)|exact iM ef dC .ag .ag (fun hg=>by have h0:0≤cz q (ab q.aM k2).key:=(by simpa using hg);have:=ra h0;omega)|exact iX ef dC .ag .ag (fun hg=>by have h0:0≤cz q (ab q.aM k2).key:=(by simpa using hg);have:=ra h0;omega))) ?_
     refine du ?_
     refine .q .F (.cl (Ic ..)) ?_
     refine cq ?_
     refine .nil ?_
     intro I a w hs
     refine aG ?_
     refine hs.cd (fun aL=>?_) fun aL=>?_
     ·rw[HG] at aL;replace aL:=nt aL
      refine az fun I a w hs=>?_
      refine nn<|wp_ret<|bh<|aE<|aE<|bh<|aE ?_
      refine hs.rt ?_
      exact bM (by unfold mR lq;rw[eJ aT (by omega),eP (f:=nH q) aI aL];rfl)
     ·rw[HG] at aL;replace aL:=nf aL
      refine ai fun I a w hs=>?_
      refine nn ?_
      have hs:=hs.drop 0
      exact hs.ag (k2+1) (⟨by omega,fD im aL⟩)
    ·try simp only[B] at aI
     refine wp_exit<|aF<|aF<|aY ?_
     refine cx fun I a w hs=>?_
     refine hs.q .F (.cl (Ie ..)) fun hs=>?_
     refine ai fun I a w hs=>?_
     refine nn<|wp_ret ?_
     refine hs.rt ?_
     exact bM (by unfold mR lq;rw[eJ aT (by omega),eJ im (by omega)];rfl)
set_option maxHeartbeats 4000000 in
theorem Cz (q:Call) (time:Int) (ht:time≤4611686018427387904):
 Fn Tryz.prog 74 [q.av,AV.int time] (AV.bool (eL q time)):=by
 refine Fn.intro 125 Tryz.func74 rfl Tryz.ntmps74 rfl (by kernel_rfl) (fun W I a hs=>?_)
 have lens:q.keys.length≤9223372036854775807∧q.ax.length≤9223372036854775807∧q.aM.length≤9223372036854775807:=by
  obtain⟨cs,_,hc⟩:=hs.env 0 _ rfl
  obtain⟨u1,_,h1,_⟩:=hc.get (i:=3) rfl
  obtain⟨u2,_,h2,_⟩:=hc.get (i:=11) rfl
  obtain⟨u3,_,h3,_⟩:=hc.get (i:=12) rfl
  exact⟨bL h1,bL h2,bL h3⟩
 refine aJ fun I a w hs=>?_
 refine hs.o (.c1 (wc ..)) fun hs=>?_
 refine aJ fun I a w hs=>?_
 refine hs.q .F (.cl (hC ..)) fun hs=>?_
 refine aJ fun I a w hs=>?_
 refine hs.q .F (.cl (Qm ..)) fun hs=>?_
 refine aW fun I a w hs=>?_
 refine hs.q .F (.cl (hC ..)) fun hs=>?_
 refine aW fun I a w hs=>?_
 refine hs.q .F (.cl (yr ..)) fun hs=>?_
 refine aW fun I a w hs=>?_
 refine hs.q .F (.cl (yr ..)) fun hs=>?_
 refine cx fun I a w hs=>?_
 refine hs.q .F (.cl (hC ..)) fun hs=>?_
 refine aW fun I a w hs=>?_
 refine hs.q .F (.cl (G7 ..)) fun hs=>?_
 refine aJ fun I a w hs=>?_
 refine hs.q .F (.cl (Qn ..)) fun hs=>?_
 refine ai fun I a w hs=>?_
 refine nn ?_
 refine hs.cd (fun ae=>?_) fun ae=>?_
 ·rw[HH] at ae;replace ae:=nt ae
  refine az fun I a w hs=>?_
  refine nn<|wp_ret<|aE ?_
  refine hs.rt ?_
  exact bM (by unfold eL;rw[ae];rfl)
 ·rw[HH] at ae;replace ae:=nf ae
  refine pS fun I a w hs=>?_
  refine hs.q .T (jM .ag .ag (fun hg=>by have:=Qi ae;omega)) fun hs=>?_
  refine pS fun I a w hs=>?_
  refine hs.q .F2 (.cl (sD ..)) fun hs=>?_
  refine aJ fun I a w hs=>?_
  refine nn ?_
  refine hs.cd (fun ah=>?_) fun ah=>?_
  ·rw[Ig] at ah;replace ah:=nt ah
   refine az fun I a w hs=>?_
   refine nn<|wp_ret<|aE ?_
   refine hs.rt ?_
   exact bM (by unfold eL;rw[ae,ah];rfl)
  ·rw[Ig] at ah;replace ah:=nf ah
   refine aB fun I a w hs=>?_
   refine nn ?_
   refine hs.cd (fun aj=>?_) fun aj=>?_
   ·try simp only[B] at aj
    refine ai fun I a w hs=>?_
    refine hs.o (.c1 (sD ..)) fun hs=>hs.s fun hs=>nn<|wp_ret<|aE ?_
    refine hs.rt ?_
    exact bM (by unfold eL l9;rw[ae,ah,if_pos aj];rfl)
   ·try simp only[B] at aj
    refine dq fun I a w hs=>?_
    refine hs.q .F (jM .ag .c (fun hg=>by have:=Qh ae;omega)) fun hs=>?_
    refine hs.q .F .mv fun hs=>?_
    refine hs.q .F (.cl (hC ..)) fun hs=>?_
    refine gi fun I a w hs=>?_
    refine nn ?_
    refine hs.cd (fun aI=>?_) fun aI=>?_
    ·skip
     refine az fun I a w hs=>?_
     refine nn<|wp_ret<|aE ?_
     refine hs.rt ?_
     exact bM (by unfold eL l9;rw[ae,ah,if_neg aj,aI];rfl)
    ·skip
     refine aJ fun I a w hs=>?_
     refine hs.q .T (.cl (sD ..)) fun hs=>?_
     refine dq fun I a w hs=>?_
     refine hs.q .T2 (.cl (Ie ..)) fun hs=>?_
     refine aB fun I a w hs=>?_
     refine nn<|wp_ret ?_
     refine hs.rt ?_
     exact bM (by unfold eL l9;rw[ae,ah,if_neg aj,aI];rfl)
theorem Qo (q:Call):
 Fn Tryz.prog 120 [q.av] (AV.bool (sI q)):=by
 refine Fn.intro 57 Tryz.func120 rfl Tryz.ntmps120 rfl (by kernel_rfl) (fun W I a hs=>?_)
 have lens:q.keys.length≤9223372036854775807∧q.ax.length≤9223372036854775807∧q.aM.length≤9223372036854775807:=by
  obtain⟨cs,_,hc⟩:=hs.env 0 _ rfl
  obtain⟨u1,_,h1,_⟩:=hc.get (i:=3) rfl
  obtain⟨u2,_,h2,_⟩:=hc.get (i:=11) rfl
  obtain⟨u3,_,h3,_⟩:=hc.get (i:=12) rfl
  exact⟨bL h1,bL h2,bL h3⟩
 refine v3 fun I a w hs=>?_
 refine nn ?_
 refine hs.cd (fun ae=>?_) fun ae=>?_
 ·skip
  refine az fun I a w hs=>?_
  refine nn<|wp_ret<|aE ?_
  refine hs.rt ?_
  exact bM (by unfold sI;rw[ae];rfl)
 ·skip
  refine az fun I a w hs=>?_
  refine nn<|wp_block ?_
  refine St.lo (σ:=Nat) (run 2 2 (run 32 25 [])) ⟨fun k=>[(3,AV.int k)],fun k=>[],fun k=>k≤q.keys.length∧∀i,i<k→(ee cU l7 q.keys) i=true⟩ (fun k=>q.keys.length-k) 0 hs ?aN ?aO
  case aN=>exact⟨Nat.zero_le _,fun i hi=>by omega⟩
  case aO=>
   rintro k I a w al hs
   obtain⟨pY,aT⟩:=al
   refine aW fun I a w hs=>?_
   refine nn ?_
   refine hs.cd (fun ah=>?_) fun ah=>?_
   ·try simp only[B] at ah
    refine wp_skip<|aG<|wp_seq<|wp_block<|wp_seq<|hs.dk ?_
    refine eK ?_
    refine .o (.c1 (qU ..)) ?_
    refine lY ?_
    refine du ?_
    refine .nil ?_
    intro I a w hs
    refine aG ?_
    refine hs.cd (fun aj=>?_) fun aj=>?_
    ·rw[HE] at aj;replace aj:=nt aj
     refine az fun I a w hs=>?_
     refine nn<|wp_ret<|bh<|aE<|aE<|bh<|aE ?_
     refine hs.rt ?_
     exact bM (by unfold sI jr;rw[eP (f:=ee cU l7 q.keys) ah aj];simp)
    ·rw[HE] at aj;replace aj:=nf aj
     refine aB fun I a w hs=>?_
     refine nn ?_
     exact hs.ag (k+1) (⟨by omega,fD aT aj⟩)
   ·try simp only[B] at ah
    refine wp_exit<|aF<|aF<|aY ?_
    refine az fun I a w hs=>?_
    refine nn<|wp_ret ?_
    refine hs.rt ?_
    exact bM (by unfold sI jr;rw[ae,eJ aT (by omega)];rfl)
set_option maxHeartbeats 4000000 in
theorem Qp (x:Answer):
 Fn Tryz.prog 121 [x.av] (AV.bool (sH x)):=by
 refine Fn.intro 55 Tryz.func121 rfl Tryz.ntmps121 rfl (by kernel_rfl) (fun W I a hs=>?_)
 refine aW fun I a w hs=>?_
 refine nn ?_
 refine hs.cd (fun ae=>?_) fun ae=>?_
 ·try simp only[B] at ae
  refine ai fun I a w hs=>?_
  refine hs.alloc rfl bt dO fun b3 I a w hs=>?_
  refine hs.sb 0 fun hs=>?_
  obtain⟨I,hs⟩:=hs.fb 0 3
  refine ai fun I a w hs=>?_
  refine hs.o (.c1 (qU ..)) fun hs=>?_
  refine v3 fun I a w hs=>?_
  refine hs.q .T (.bd iC aZ.nil) fun hs=>?_
  refine hs.q .T (lf [_,_] [_,_] l3 rfl rfl .ag .ag) fun hs=>?_
  refine gi fun I a w hs=>?_
  refine nn<|wp_ret<|aE ?_
  refine hs.rt ?_
  exact bM (by rw[←Qj x ae,←yP])
 ·try simp only[B] at ae
  refine ai fun I a w hs=>?_
  refine hs.o (.c1 (B1 ..)) fun hs=>?_
  refine jR fun I a w hs=>?_
  refine nn<|wp_ret ?_
  refine hs.rt ?_
  exact bM (by unfold sH;rw[ae];rfl)
theorem Ij {q:Call} {time:Int} (h:nI q time=true):1≤q.bm∧q.bm≤time∧q.aM.length≤6:=by
 simp only[nI,Bool.not_eq_true',Bool.or_eq_false_iff] at h
 have h1:=h.2
 have h2:=h.1.2
 simp at h2
 have:=gm h2
 simp[aQ] at h1;omega
theorem Ik (q:Call):(decide (0<(q.aM.length:Int))&&decide ((q.ax.length:Int)<q.keys.length))=!yA q:=by simp[yA]
set_option maxHeartbeats 4000000 in
theorem yQ (q:Call) (time:Int) (ht:time≤4611686018427387904) (rl:q.ax.length≤1048576):
 Fn Tryz.prog 75 [q.av,AV.int time] (AV.bool (eL q time)):=by
 refine Fn.intro 240 Tryz.func75 rfl Tryz.ntmps75 rfl (by kernel_rfl) (fun W I a hs=>?_)
 have lens:q.keys.length≤9223372036854775807∧q.ax.length≤9223372036854775807∧q.aM.length≤9223372036854775807:=by
  obtain⟨cs,_,hc⟩:=hs.env 0 _ rfl
  obtain⟨u1,_,h1,_⟩:=hc.get (i:=3) rfl
  obtain⟨u2,_,h2,_⟩:=hc.get (i:=11) rfl
  obtain⟨u3,_,h3,_⟩:=hc.get (i:=12) rfl
  exact⟨bL h1,bL h2,bL h3⟩
 refine aJ fun I a w hs=>?_
 refine hs.o (.cl (gP ..)) fun hs=>?_
 refine aJ fun I a w hs=>?_
 refine hs.q .F (.cl (gP ..)) fun hs=>?_
 refine aW fun I a w hs=>?_
 refine hs.q .F (.cl (gP ..)) fun hs=>?_
 refine aJ fun I a w hs=>?_
 refine hs.q .F (.cl (Qo ..)) fun hs=>?_
 refine aW fun I a w hs=>?_
 refine hs.q .F (.cl (gP ..)) fun hs=>?_
 refine aW fun I a w hs=>?_
 refine hs.q .F (.cl (oB ..)) fun hs=>?_
 refine aW fun I a w hs=>?_
 refine hs.q .F (.cl (oB ..)) fun hs=>?_
 refine cx fun I a w hs=>?_
 refine hs.q .F (.cl (gP ..)) fun hs=>?_
 refine ai fun I a w hs=>?_
 refine nn ?_
 refine hs.cd (fun ae=>?_) fun ae=>?_
 ·replace ae:nI q time=false:=by unfold nI;rw[ae];rfl
  refine az fun I a w hs=>?_
  refine nn<|wp_ret<|aE ?_
  refine hs.rt ?_
  exact bM (by rw[sJ];rw[ae];rfl)
 ·replace ae:nI q time=true:=by unfold nI;rw[ae];rfl
  refine kq fun I a w hs=>?_
  refine hs.q .T (jM .ag .ag (fun hg=>by have:=Ij ae;omega)) fun hs=>?_
  refine nz fun I a w hs=>?_
  refine hs.q .F2 (.bd iC aZ.nil) fun hs=>?_
  refine hs.q .F2 (r6 [_,_] [_,_] l3 rfl rfl .ag .ag) fun hs=>?_
  refine cx fun I a w hs=>?_
  refine hs.q .F (.cl (G6 ..)) fun hs=>?_
  refine qR fun I a w hs=>?_
  refine nn ?_
  refine hs.cd (fun ah=>?_) fun ah=>?_
  ·rw[yO] at ah;replace ah:uf q=false:=by unfold uf;rw[ah];rfl
   refine az fun I a w hs=>?_
   refine nn<|wp_ret<|aE ?_
   refine hs.rt ?_
   exact bM (by rw[sJ];rw[ae,ah];rfl)
  ·rw[yO] at ah;replace ah:uf q=true:=by unfold uf;rw[ah];rfl
   refine az fun I a w hs=>?_
   refine nn<|wp_block ?_
   refine St.lo (σ:=Nat) (run 2 4 (run 46 98 [])) ⟨fun k=>[(5,AV.int k)],fun k=>[],fun k=>k≤q.ax.length∧∀i,i<k→(q8 q) i=true⟩ (fun k=>q.ax.length-k) 0 hs ?aN ?aO
   case aN=>exact⟨Nat.zero_le _,fun i hi=>by omega⟩
   case aO=>
    rintro k I a w al hs
    obtain⟨pY,aT⟩:=al
    refine aW fun I a w hs=>?_
    refine nn ?_
    refine hs.cd (fun aj=>?_) fun aj=>?_
    ·try simp only[B] at aj
     refine wp_skip<|aG<|wp_seq<|wp_block<|wp_seq<|hs.dk ?_
     refine eK ?_
     refine .o (.c1 (Qp ..)) ?_
     refine mK ?_
     refine .q .F (.cl (H9 ..)) ?_
     refine lY ?_
     refine fP ?_
     refine .nil ?_
     intro I a w hs
     refine aG ?_
     refine hs.cd (fun aI=>?_) fun aI=>?_
     ·rw[Ih] at aI;replace aI:=nt aI
      refine az fun I a w hs=>?_
      refine nn<|wp_ret<|bh<|aE<|aE<|bh<|aE ?_
      refine hs.rt ?_
      exact bM (by rw[sJ];rw[eP (f:=q8 q) aj aI];simp)
     ·rw[Ih] at aI;replace aI:=nf aI
      refine aB fun I a w hs=>?_
      refine nn ?_
      exact hs.ag (k+1) (⟨by omega,fD aT aI⟩)
    ·try simp only[B] at aj
     refine wp_exit<|aF<|aF<|aY ?_
     refine nz fun I a w hs=>?_
     refine nn ?_
     refine hs.cd (fun aL=>?_) fun aL=>?_
     ·rw[Ik] at aL;replace aL:=nt aL
      refine az fun I a w hs=>?_
      refine nn<|wp_ret<|aE ?_
      refine hs.rt ?_
      exact bM (by rw[sJ];rw[aL];simp)
     ·rw[Ik] at aL;replace aL:=nf aL
      refine az fun I a w hs=>?_
      refine nn<|wp_block ?_
      refine St.lo (σ:=Nat) (4::(run 2 6 (run 34 157 []))) ⟨fun k2=>[(6,AV.int k2)],fun k2=>[],fun k2=>k2≤q.aM.length∧∀i,i<k2→(q9 q) i=true⟩ (fun k2=>q.aM.length-k2) 0 hs ?dT ?dU
      case dT=>exact⟨Nat.zero_le _,fun i hi=>by omega⟩
      case dU=>
       rintro k2 I a w al hs
       obtain⟨ua,im⟩:=al
       refine aW fun I a w hs=>?_
       refine nn ?_
       refine hs.cd (fun bf=>?_) fun bf=>?_
       ·try simp only[B] at bf
        refine wp_skip<|aG<|wp_seq<|wp_block<|wp_seq<|hs.dk ?_
        refine jS ?_
        refine .o (.c2 (yM ..)) ?_
        refine bz ?_
        refine .nil ?_
        intro I a w hs
        refine aG<|wp_seq<|hs.dk ?_
        refine fP ?_
        refine .q .F ((by first|exact eZ ef dC .ag .ag (fun hg=>by have h0:0≤cz q (ab q.aM k2).key:=(by simpa using hg);have:=ra h0;omega)|exact iM ef dC .ag .ag (fun hg=>by have h0:0≤cz q (ab q.aM k2).key:=(by simpa using hg);have:=ra h0;omega)|exact iX ef dC .ag .ag (fun hg=>by have h0:0≤cz q (ab q.aM k2).key:=(by simpa using hg);have:=ra h0;omega))) ?_
        refine tQ ?_
        refine .q .F (.cl (tW ..)) ?_
        refine cq ?_
        refine .nil ?_
        intro I a w hs
        refine aG ?_
        refine hs.cd (fun aX=>?_) fun aX=>?_
        ·rw[Ii] at aX;replace aX:=nt aX
         refine az fun I a w hs=>?_
         refine nn<|wp_ret<|bh<|aE<|aE<|bh<|aE ?_
         refine hs.rt ?_
         exact bM (by rw[sJ];rw[eP (f:=q9 q) bf aX];simp)
        ·rw[Ii] at aX;replace aX:=nf aX
         refine aB fun I a w hs=>?_
         refine nn ?_
         exact hs.ag (k2+1) (⟨by omega,fD im aX⟩)
       ·try simp only[B] at bf
        refine wp_exit<|aF<|aF<|aY ?_
        refine aB fun I a w hs=>?_
        refine nn ?_
        refine hs.cd (fun bU=>?_) fun bU=>?_
        ·try simp only[B] at bU
         refine ai fun I a w hs=>?_
         refine hs.o (.bd iC aZ.nil) fun hs=>?_
         refine hs.o (lf [_,_] [_,_] l3 rfl rfl .tt .tt) fun hs=>hs.s fun hs=>nn<|wp_ret<|aE ?_
         refine hs.rt ?_
         exact bM (by rw[sJ];rw[ae,ah,eJ aT (by omega),aL,eJ im (by omega),yP];unfold yB;rw[if_pos bU];rfl)
        ·try simp only[B] at bU
         refine gi fun I a w hs=>?_
         refine hs.q .T (jM .ag .c (fun hg=>by have:=Ij ae;omega)) fun hs=>?_
         refine hs.q .T .mv fun hs=>?_
         refine hs.q .T (.cl (gP ..)) fun hs=>?_
         refine Ov fun I a w hs=>?_
         refine hs.q .T2 (.cl (sC ..)) fun hs=>?_
         refine vZ fun I a w hs=>?_
         refine nn<|wp_ret ?_
         refine hs.rt ?_
         exact bM (by rw[sJ];rw[ae,ah,eJ aT (by omega),aL,eJ im (by omega)];unfold yB;rw[if_neg bU];rfl)
theorem yR:vY Tryz.prog 108 3 3 (fun x:Int=>Lit.int .i64 x) (fun x:Int=>Value.int .i64 x) (fun x=>.lit (.int .i64 x)) (fun x=>-9223372036854775808≤x∧x≤9223372036854775807) 0:=Ot Pd nA nA fun w=>fT.zero
theorem Il {α:Type} [Inhabited α] {l:List α} {j k:Nat} (h:j<k):ab (l.take k) j=ab l j:=by
 unfold ab;simp[List.getD_eq_getElem?_getD,List.getElem?_take,h]
theorem Io {l:List Call} {time:Int} {j:Nat} (h:ku l time j=true):(ab l j).num=fo l (j+1) (ab l j).aC:=by
 simp only[ku,Bool.and_eq_true,beq_iff_eq] at h;exact h.1.2
theorem Qq (n:Nat):decide ((n:Int)≤20)=decide (n≤20):=by rw[Bool.eq_iff_iff];simp;omega
theorem Qr {n:Nat} (h:(20:Int)<n):decide (n≤20)=false:=by simp;omega
set_option maxHeartbeats 4000000 in
theorem Qs (l:List Call) (time:Int) (ht:time≤4611686018427387904) (hl:l.length≤1048576) (bB:∀q∈l,c8 q.aC):
 Fn Tryz.prog 39 [bE l,AV.int time] (AV.bool (iu l time)):=by
 refine Fn.intro 86 Tryz.func39 rfl Tryz.ntmps39 rfl (by kernel_rfl) (fun W I a hs=>?_)
 refine az fun I a w hs=>?_
 refine nn<|sr<|hs.makeMap rfl yR fun kb a w hs=>?_
 rw[show(fun _:Int=>(0:Int))=fo l 0 from(Cl l).symm] at hs
 refine aJ fun I a w hs=>?_
 refine nn<|wp_block ?_
 refine St.lo (σ:=Nat) (4::(run 2 6 (9::(run 70 13 [])))) ⟨fun k=>[(13,AV.int k)],fun k=>[Own.su Tryz.prog 3 3 (fun x:Int=>Lit.int .i64 x) (fun x:Int=>.lit (.int .i64 x)) 0 kb (k) (fo l (k))],fun k=>k≤l.length∧∀i,i<k→(ku l time) i=true⟩ (fun k=>l.length-k) 0 hs ?aN ?aO
 case aN=>exact⟨Nat.zero_le _,fun i hi=>by omega⟩
 case aO=>
  rintro k I a w al hs
  obtain⟨pY,aT⟩:=al
  refine az fun I a w hs=>?_
  refine nn<|wp_seq ?_
  refine hs.cd (fun ae=>?_) fun ae=>?_
  ·try simp only[B] at ae
   refine aB fun I a w hs=>?_
   refine hs.alloc rfl cy iP fun b7 I a w hs=>?_
   refine ai fun I a w hs=>?_
   obtain⟨I,hs⟩:=hs.fb 1 7
   refine aB fun I a w hs=>?_
   refine hs.o (GJ 0 yR .tt (BQ nA .tt (bB _ (bx ae))) rfl) fun hs=>?_
   refine hs.o (jM .tt .c (fun _=>by have:=yE l k (ab l k).aC;omega)) fun hs=>?_
   refine hs.mapUpdate 0 yR .tt (BQ nA .tt (bB _ (bx ae))) .tt (by have:=yE l k (ab l k).aC;omega) (by omega) rfl fun a w hs=>?_
   rw[P6 ae] at hs
   refine nn<|wp_seq<|wp_seq<|hs.dk ?_
   refine cq ?_
   refine .o (.c2 (Cz _ _ ht)) ?_
   refine lY ?_
   refine fP ?_
   refine .q .F (GJ 0 yR .ag (BQ nA .ag (bB _ (bx ae))) rfl) ?_
   refine cq ?_
   refine .nil ?_
   intro I a w hs
   refine aG ?_
   refine hs.cd (fun ah=>?_) fun ah=>?_
   ·rw[HU] at ah;replace ah:=nt ah
    refine az fun I a w hs=>?_
    refine nn<|wp_ret<|aE<|bh<|aE<|aE<|bh<|aE ?_
    refine hs.rt ?_
    exact bM (by unfold iu;rw[eP (f:=ku l time) ae (by unfold ku;rw[ah];rfl)];rfl)
   ·rw[HU] at ah;replace ah:=nf ah
    refine ai fun I a w hs=>?_
    refine hs.o (vy iD cy .r .tt (fun _=>by rw[List.length_map];omega)) fun hs=>?_
    rw[←List.map_take,Int.toNat_natCast] at hs
    have FO:(l.take k).length=k:=by simp;omega
    refine ai fun I a w hs=>?_
    refine nn<|wp_block ?_
    refine St.lo (σ:=Nat) (4::(9::(run 27 55 []))) ⟨fun k2=>[(55,AV.int k2)],fun k2=>[Own.su Tryz.prog 3 3 (fun x:Int=>Lit.int .i64 x) (fun x:Int=>.lit (.int .i64 x)) 0 kb (k+1) (fo l (k+1)),Own.gone],fun k2=>k2≤k∧∀i,i<k2→(fun j=>!ke (ab l j) (ab l k)) i=true⟩ (fun k2=>k-k2) 0 hs ?dT ?dU
    case dT=>exact⟨Nat.zero_le _,fun i hi=>by omega⟩
    case dU=>
     rintro k2 I a w al hs
     obtain⟨ua,im⟩:=al
     refine az fun I a w hs=>?_
     refine nn<|wp_seq ?_
     refine hs.cd (fun aj=>?_) fun aj=>?_
     ·try simp only[B] at aj
      refine ai fun I a w hs=>?_
      refine hs.alloc rfl cy iP fun b9 I a w hs=>?_
      refine hs.sb 2 fun hs=>?_
      obtain⟨I,hs⟩:=hs.fb 2 9
      refine G4 fun I a w hs=>?_
      refine nn ?_
      refine hs.cd (fun aI=>?_) fun aI=>?_
      ·change ke (ab (l.take k) k2) (ab l k)=true at aI;rw[Il (by omega)] at aI
       refine az fun I a w hs=>?_
       refine nn<|wp_ret<|bh<|aE<|aE<|bh<|bh<|aE<|aE<|bh<|aE ?_
       refine hs.rt ?_
       exact bM (by unfold iu;rw[eP (f:=ku l time) ae (by unfold ku;rw[eP (f:=fun j=>!ke (ab l j) (ab l k)) (k:=k2) (by omega) (by rw[aI];rfl)];simp)];rfl)
      ·change ke (ab (l.take k) k2) (ab l k)=false at aI;rw[Il (by omega)] at aI
       refine ai fun I a w hs=>?_
       refine nn ?_
       have hs:=hs.drop 2
       exact hs.ag (k2+1) (⟨by omega,fD im (by rw[aI];rfl)⟩)
     ·try simp only[B] at aj
      refine wp_exit<|aF<|aF<|aY ?_
      refine ai fun I a w hs=>?_
      refine nn ?_
      have hs:=hs.drop 1
      exact hs.ag (k+1) (⟨by omega,fD aT (by unfold ku;rw[ah,eJ im (by omega)];rfl)⟩)
  ·try simp only[B] at ae
   refine wp_exit<|aF<|aF<|aY ?_
   refine aJ fun I a w hs=>?_
   refine nn<|wp_ret ?_
   refine hs.rt ?_
   exact bM (by unfold iu;rw[eJ aT (by omega),Qq];rfl)
end Go.Proofs.YtoeioeimmfpefaaGreat
