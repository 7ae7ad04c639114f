/- Part 17: rules of the proofs, contracts of functions, plain facts. -/
import Derived.Test.YtoeioeimmfpefaaGreatP16
set_option linter.unusedVariables false
set_option linter.unusedSimpArgs false
set_option maxRecDepth 100000
set_option maxHeartbeats 4000000
namespace Go.Proofs.YtoeioeimmfpefaaGreat
open Go Go.RowKit
attribute [local irreducible] wpList Code.wp Ok
theorem bx {α:Type} [Inhabited α] {l:List α} {k:Nat} (h:k<l.length):ab l k∈l:=by
 unfold ab;rw[List.getD_eq_getElem?_getD,List.getElem?_eq_getElem h];exact List.getElem_mem _
def dm {α:Type} (p:α→Bool) (l:List α):Int:=match l.findIdx? p with
 |some k=>k
 |none=>-1
theorem mM {α:Type} [Inhabited α] {p:α→Bool} {l:List α} {k:Nat} (hk:k<l.length) (h:∀i,i<k→p (ab l i)=false) (hp:p (ab l k)=true):dm p l=k:=by
 have:l.findIdx? p=some k:=by
  rw[List.findIdx?_eq_some_iff_getElem]
  refine⟨hk,by simpa[ab,hk] using hp,fun j hj=>?_⟩
  have:=h j hj
  have jy:j<l.length:=by omega
  simpa[ab,jy] using this
 unfold dm;rw[this]
theorem l5 {α:Type} [Inhabited α] {p:α→Bool} {l:List α} {k:Nat} (hk:l.length≤k) (h:∀i,i<k→p (ab l i)=false):dm p l=-1:=by
 have:l.findIdx? p=none:=by
  rw[List.findIdx?_eq_none_iff]
  intro x hx
  obtain⟨i,hi,rfl⟩:=List.getElem_of_mem hx
  have:=h i (by omega)
  simpa[ab,hi] using this
 unfold dm;rw[this]
theorem PA {α:Type} (p:α→Bool) (l:List α):-1≤dm p l:=by unfold dm;split<;>omega
theorem PB {α:Type} (p:α→Bool) (l:List α):dm p l<(l.length:Int)∨dm p l=-1:=by
 unfold dm
 split
 ·rename_i k h
  have:=(List.findIdx?_eq_some_iff_getElem.1 h).1
  left;omega
 ·right;rfl
def hasB {α:Type} (p:α→Bool) (l:List α):Bool:=decide (0≤dm p l)
theorem B7 {α:Type} [Inhabited α] {p:α→Bool} {l:List α} (h:0≤dm p l):∃k,k<l.length∧p (ab l k)=true:=by
 unfold dm at h
 split at h
 ·rename_i k hk
  obtain⟨h1,h2,_⟩:=List.findIdx?_eq_some_iff_getElem.1 hk
  exact⟨k,h1,by simpa[ab,h1] using h2⟩
 ·omega
theorem yw {α:Type} [Inhabited α] {p:α→Bool} {l:List α} (h:dm p l<0):∀k,k<l.length→p (ab l k)=false:=by
 unfold dm at h
 split at h
 ·omega
 ·rename_i hn
  rw[List.findIdx?_eq_none_iff] at hn
  intro k hk
  have:=hn (ab l k) (by unfold ab;rw[List.getD_eq_getElem?_getD,List.getElem?_eq_getElem hk];exact List.getElem_mem _)
  exact this
def ln (d:ar) (v:aK):Bool:=decide (v.bH=d)
def placeOf (l:List aK) (d:ar):Int:=dm (ln d) l
theorem PC (d:ar) (v:aK):([v.key,v.aA.time,v.aA.site]==[d.key,d.aA.time,d.aA.site])=ln d v:=by
 obtain⟨k,⟨t,s⟩⟩:=d
 obtain⟨vk,⟨vt,vs⟩,_,_,_,_⟩:=v
 rw[Bool.eq_iff_iff]
 simp[ln,aK.bH,Bool.and_eq_true]
theorem B8 (l:List (aK)) (p:(aK)→Bool) (fv:AV) (hf:∀x:aK,x∈l→mE Tryz.prog fv [x.av] (AV.bool (p x))):
 Fn Tryz.prog 111 [cv l,fv] (AV.int (dm p l)):=by
 refine Fn.intro 19 Tryz.func111 rfl Tryz.ntmps111 rfl (by kernel_rfl) (fun W I a hs=>?_)
 have hle:=hs.ew (t:=0) rfl
 refine aJ fun I a w hs=>?_
 refine nn<|wp_block ?_
 refine St.lo (σ:=Nat) (run 2 4 (run 11 8 [])) ⟨fun k=>[(8,AV.int k)],fun k=>[],fun k=>k≤l.length∧∀i,i<k→p (ab l i)=false⟩ (fun k=>l.length-k) 0 hs ?aN ?aO
 case aN=>exact⟨Nat.zero_le _,fun i hi=>by omega⟩
 case aO=>
  rintro k I a w al hs
  obtain⟨hk,aT⟩:=al
  refine az fun I a w hs=>?_
  refine nn<|wp_seq ?_
  refine hs.cd (fun ae=>?_) fun ae=>?_
  ·try simp only[B] at ae
   refine dq fun I a w hs=>?_
   refine hs.o (xP (hf _ (bx ae)) .tt (aw .tt aP)) fun hs=>nn ?_
   refine hs.cd (fun ah=>?_) fun ah=>?_
   ·skip
    refine ai fun I a w hs=>?_
    refine nn<|wp_ret<|bh<|aE<|aE<|bh<|aE ?_
    refine hs.rt ?_
    exact fk (mM ae aT ah).symm
   ·skip
    refine ai fun I a w hs=>?_
    refine nn ?_
    exact hs.ag (k+1) (⟨ae,fun i h1=>by rcases Nat.lt_succ_iff_lt_or_eq.1 h1 with h|h;exact aT i h;rw[h];exact ah⟩)
  ·try simp only[B] at ae
   refine wp_exit<|aF<|aF<|aY ?_
   refine az fun I a w hs=>?_
   refine nn<|wp_ret ?_
   refine hs.rt ?_
   exact fk (l5 (by omega) aT).symm
theorem PD (l:List (ar)) (p:(ar)→Bool) (fv:AV) (hf:∀x:ar,x∈l→mE Tryz.prog fv [x.av] (AV.bool (p x))):
 Fn Tryz.prog 156 [bl l,fv] (AV.int (dm p l)):=by
 refine Fn.intro 19 Tryz.func156 rfl Tryz.ntmps156 rfl (by kernel_rfl) (fun W I a hs=>?_)
 have hle:=hs.ew (t:=0) rfl
 refine aJ fun I a w hs=>?_
 refine nn<|wp_block ?_
 refine St.lo (σ:=Nat) (run 2 4 (run 11 8 [])) ⟨fun k=>[(8,AV.int k)],fun k=>[],fun k=>k≤l.length∧∀i,i<k→p (ab l i)=false⟩ (fun k=>l.length-k) 0 hs ?aN ?aO
 case aN=>exact⟨Nat.zero_le _,fun i hi=>by omega⟩
 case aO=>
  rintro k I a w al hs
  obtain⟨hk,aT⟩:=al
  refine az fun I a w hs=>?_
  refine nn<|wp_seq ?_
  refine hs.cd (fun ae=>?_) fun ae=>?_
  ·try simp only[B] at ae
   refine dq fun I a w hs=>?_
   refine hs.o (xP (hf _ (bx ae)) .tt (aw .tt aP)) fun hs=>nn ?_
   refine hs.cd (fun ah=>?_) fun ah=>?_
   ·skip
    refine ai fun I a w hs=>?_
    refine nn<|wp_ret<|bh<|aE<|aE<|bh<|aE ?_
    refine hs.rt ?_
    exact fk (mM ae aT ah).symm
   ·skip
    refine ai fun I a w hs=>?_
    refine nn ?_
    exact hs.ag (k+1) (⟨ae,fun i h1=>by rcases Nat.lt_succ_iff_lt_or_eq.1 h1 with h|h;exact aT i h;rw[h];exact ah⟩)
  ·try simp only[B] at ae
   refine wp_exit<|aF<|aF<|aY ?_
   refine az fun I a w hs=>?_
   refine nn<|wp_ret ?_
   refine hs.rt ?_
   exact fk (l5 (by omega) aT).symm
theorem PE (l:List (Call)) (p:(Call)→Bool) (fv:AV) (hf:∀x:Call,x∈l→mE Tryz.prog fv [x.av] (AV.bool (p x))):
 Fn Tryz.prog 165 [bE l,fv] (AV.int (dm p l)):=by
 refine Fn.intro 19 Tryz.func165 rfl Tryz.ntmps165 rfl (by kernel_rfl) (fun W I a hs=>?_)
 have hle:=hs.ew (t:=0) rfl
 refine aJ fun I a w hs=>?_
 refine nn<|wp_block ?_
 refine St.lo (σ:=Nat) (run 2 4 (run 11 8 [])) ⟨fun k=>[(8,AV.int k)],fun k=>[],fun k=>k≤l.length∧∀i,i<k→p (ab l i)=false⟩ (fun k=>l.length-k) 0 hs ?aN ?aO
 case aN=>exact⟨Nat.zero_le _,fun i hi=>by omega⟩
 case aO=>
  rintro k I a w al hs
  obtain⟨hk,aT⟩:=al
  refine az fun I a w hs=>?_
  refine nn<|wp_seq ?_
  refine hs.cd (fun ae=>?_) fun ae=>?_
  ·try simp only[B] at ae
   refine dq fun I a w hs=>?_
   refine hs.o (xP (hf _ (bx ae)) .tt (aw .tt aP)) fun hs=>nn ?_
   refine hs.cd (fun ah=>?_) fun ah=>?_
   ·skip
    refine ai fun I a w hs=>?_
    refine nn<|wp_ret<|bh<|aE<|aE<|bh<|aE ?_
    refine hs.rt ?_
    exact fk (mM ae aT ah).symm
   ·skip
    refine ai fun I a w hs=>?_
    refine nn ?_
    exact hs.ag (k+1) (⟨ae,fun i h1=>by rcases Nat.lt_succ_iff_lt_or_eq.1 h1 with h|h;exact aT i h;rw[h];exact ah⟩)
  ·try simp only[B] at ae
   refine wp_exit<|aF<|aF<|aY ?_
   refine az fun I a w hs=>?_
   refine nn<|wp_ret ?_
   refine hs.rt ?_
   exact fk (l5 (by omega) aT).symm
theorem Hg (l:List (Answer)) (p:(Answer)→Bool) (fv:AV) (hf:∀x:Answer,x∈l→mE Tryz.prog fv [x.av] (AV.bool (p x))):
 Fn Tryz.prog 193 [oq l,fv] (AV.int (dm p l)):=by
 refine Fn.intro 19 Tryz.func193 rfl Tryz.ntmps193 rfl (by kernel_rfl) (fun W I a hs=>?_)
 have hle:=hs.ew (t:=0) rfl
 refine aJ fun I a w hs=>?_
 refine nn<|wp_block ?_
 refine St.lo (σ:=Nat) (run 2 4 (run 11 8 [])) ⟨fun k=>[(8,AV.int k)],fun k=>[],fun k=>k≤l.length∧∀i,i<k→p (ab l i)=false⟩ (fun k=>l.length-k) 0 hs ?aN ?aO
 case aN=>exact⟨Nat.zero_le _,fun i hi=>by omega⟩
 case aO=>
  rintro k I a w al hs
  obtain⟨hk,aT⟩:=al
  refine az fun I a w hs=>?_
  refine nn<|wp_seq ?_
  refine hs.cd (fun ae=>?_) fun ae=>?_
  ·try simp only[B] at ae
   refine dq fun I a w hs=>?_
   refine hs.o (xP (hf _ (bx ae)) .tt (aw .tt aP)) fun hs=>nn ?_
   refine hs.cd (fun ah=>?_) fun ah=>?_
   ·skip
    refine ai fun I a w hs=>?_
    refine nn<|wp_ret<|bh<|aE<|aE<|bh<|aE ?_
    refine hs.rt ?_
    exact fk (mM ae aT ah).symm
   ·skip
    refine ai fun I a w hs=>?_
    refine nn ?_
    exact hs.ag (k+1) (⟨ae,fun i h1=>by rcases Nat.lt_succ_iff_lt_or_eq.1 h1 with h|h;exact aT i h;rw[h];exact ah⟩)
  ·try simp only[B] at ae
   refine wp_exit<|aF<|aF<|aY ?_
   refine az fun I a w hs=>?_
   refine nn<|wp_ret ?_
   refine hs.rt ?_
   exact fk (l5 (by omega) aT).symm
theorem Hh (l:List (ar)) (p:(ar)→Bool) (fv:AV) (hf:∀x:ar,x∈l→mE Tryz.prog fv [x.av] (AV.bool (p x))):
 Fn Tryz.prog 113 [bl l,fv] (AV.bool (hasB p l)):=by
 refine Fn.intro 9 Tryz.func113 rfl Tryz.ntmps113 rfl (by kernel_rfl) (fun W I a hs=>?_)
 refine aB fun I a w hs=>?_
 refine hs.o (.cl (PD _ _ _ hf)) fun hs=>?_
 refine ai fun I a w hs=>?_
 refine nn<|wp_ret ?_
 refine hs.rt ?_
 rfl
theorem Hi (l:List (aK)) (p:(aK)→Bool) (fv:AV) (hf:∀x:aK,x∈l→mE Tryz.prog fv [x.av] (AV.bool (p x))):
 Fn Tryz.prog 236 [cv l,fv] (AV.bool (hasB p l)):=by
 refine Fn.intro 9 Tryz.func236 rfl Tryz.ntmps236 rfl (by kernel_rfl) (fun W I a hs=>?_)
 refine aB fun I a w hs=>?_
 refine hs.o (.cl (B8 _ _ _ hf)) fun hs=>?_
 refine ai fun I a w hs=>?_
 refine nn<|wp_ret ?_
 refine hs.rt ?_
 rfl
theorem PF (v:aK) (d:ar):
 Fn Tryz.prog 112 [v.av,AV.ptr d.cells] (AV.bool (ln d v)):=by
 refine Fn.intro 8 Tryz.func112 rfl Tryz.ntmps112 rfl (by kernel_rfl) (fun W I a hs=>?_)
 refine ai fun I a w hs=>?_
 refine nn<|wp_seq<|hs.dk ?_
 refine bz ?_
 refine .o (.c1 (l4 ..)) ?_
 refine bz ?_
 refine .o (lf [_,_,_] [_,_,_] tU rfl rfl .tt .tt) ?_
 refine bz ?_
 refine .nil ?_
 intro I a w hs
 refine aG<|wp_ret ?_
 refine hs.rt ?_
 exact bM (PC d v)
theorem oC (l:List aK) (d:ar):
 Fn Tryz.prog 65 [cv l,d.av] (AV.int (placeOf l d)):=by
 refine Fn.intro 8 Tryz.func65 rfl Tryz.ntmps65 rfl (by kernel_rfl) (fun W I a hs=>?_)
 refine aB fun I a w hs=>?_
 refine hs.o (lQ (aw .tt aP)) fun hs=>?_
 refine hs.o (.cl (B8 l (ln d) _ (fun v _=>Fn.val (PF v d)))) fun hs=>?_
 refine hs.s fun hs=>nn<|wp_ret ?_
 refine hs.rt ?_
 rfl
def missing (l:List aK) (d:ar):Bool:=decide (placeOf l d<0)
def tY (l:List aK) (ds:List ar):Bool:=!hasB (missing l) ds
theorem PG (d:ar) (l:List aK):
 Fn Tryz.prog 114 [d.av,AV.ptr [cv l]] (AV.bool (missing l d)):=by
 refine Fn.intro 8 Tryz.func114 rfl Tryz.ntmps114 rfl (by kernel_rfl) (fun W I a hs=>?_)
 refine aJ fun I a w hs=>?_
 refine hs.o (.cl (oC ..)) fun hs=>?_
 refine ai fun I a w hs=>?_
 refine nn<|wp_ret ?_
 refine hs.rt ?_
 rfl
theorem PH (l:List aK) (ds:List ar):
 Fn Tryz.prog 67 [cv l,bl ds] (AV.bool (tY l ds)):=by
 refine Fn.intro 9 Tryz.func67 rfl Tryz.ntmps67 rfl (by kernel_rfl) (fun W I a hs=>?_)
 refine sr ?_
 refine hs.o (tH .tt (by first|exact iY rfl|exact jj|exact jk|exact jl)) fun hs=>?_
 refine ai fun I a w hs=>?_
 refine hs.o (lQ (aw .tt aP)) fun hs=>?_
 refine hs.o (.cl (Hh ds (missing l) _ (fun d _=>Fn.val (PG d l)))) fun hs=>?_
 refine ai fun I a w hs=>?_
 refine nn<|wp_ret ?_
 refine hs.rt ?_
 rfl
def eh (s:Server) (key:Int):Int:=(ab s.aR (gx key).toNat).er
def nD (x:dt):Bool:=aQ x.bO 0 9999&&aQ x.er 0 2&&!((x.er !=0)&&(x.bO==0))
def qX (s:Server):Bool:=cJ s.site&&decide (s.aR.length=3)&&cg s.aq&&cg s.waits&&fe s.aH&&fe s.bq&&!(!s.up&&decide (0<s.bq.length))
def oD (s:Server) (i:Nat):Bool:=nD (ab s.aR i)
def pV (s:Server) (i:Nat):Bool:=eh s (ab s.aq i).key !=0
def pW (s:Server) (v:aK):Bool:=(eh s v.key !=0)&&(bV v.aA.site !=bV s.site)&&decide (placeOf s.aq v.bH<0)
def oE (s:Server) (i:Nat):Bool:=pW s (ab s.waits i)
def fV (s:Server):Bool:=qX s&&cO s.aR.length (oD s)&&cO s.aq.length (pV s)&&cO s.waits.length (oE s)&&tY s.aq s.aH
theorem yx (s:Server):(!cJ s.site||((s.aR.length:Int) !=3)||!cg s.aq||!cg s.waits||!fe s.aH||!fe s.bq||(!s.up&&decide (0<(s.bq.length:Int))))=!qX s:=by
 have e:((s.aR.length:Int) !=3)=!decide (s.aR.length=3):=by rw[Bool.eq_iff_iff];simp;omega
 have e2:decide (0<(s.bq.length:Int))=decide (0<s.bq.length):=by rw[Bool.eq_iff_iff];simp
 rw[e,e2];simp[qX]
theorem B9 (x:dt):(!aQ x.bO 0 9999||!aQ x.er 0 2||((x.er !=0)&&(x.bO==0)))=!nD x:=by simp[nD]
theorem Hj (s:Server) (i:Nat):(eh s (ab s.aq i).key==0)=!pV s i:=by simp[pV,bne]
theorem Hk (s:Server) (v:aK):((eh s v.key==0)||!(bV v.aA.site !=bV s.site)||decide (0≤placeOf s.aq v.bH))=!pW s v:=by
 have e:decide (0≤placeOf s.aq v.bH)=!decide (placeOf s.aq v.bH<0):=by rw[Bool.eq_iff_iff];simp
 rw[e];simp[pW,bne]
theorem qY {l:List aK} (h:cg l=true) {k:Nat} (hk:k<l.length):et (ab l k)=true:=by
 unfold cg at h
 rw[Bool.and_eq_true,iy] at h
 have:=h.2 k hk
 unfold ee at this
 rw[Bool.and_eq_true] at this
 exact this.1
theorem nE {v:aK} (h:et v=true):cU v.key=true:=by
 simp only[et,Bool.and_eq_true] at h;exact h.1.1.1.1.1.1
theorem Ca {s:Server} (h:qX s=true):s.aR.length=3∧cg s.aq=true∧cg s.waits=true∧fe s.aH=true∧fe s.bq=true∧cJ s.site=true:=by
 simp only[qX,Bool.and_eq_true,decide_eq_true_eq] at h
 exact⟨h.1.1.1.1.1.2,h.1.1.1.1.2,h.1.1.1.2,h.1.1.2,h.1.2,h.1.1.1.1.1.1⟩
theorem nF {n:Int} (h:cU n=true):0≤gx n∧gx n<3:=by
 unfold gx;simp only[h,if_true];simp[cU,aQ] at h;omega
theorem Cb (s:Server) (key:Int) (hk:cU key=true) (hl:s.aR.length=3):
 Fn Tryz.prog 63 [s.av,AV.int key] (AV.int (eh s key)):=by
 refine Fn.intro 12 Tryz.func63 rfl Tryz.ntmps63 rfl (by kernel_rfl) (fun W I a hs=>?_)
 have hr:=nF hk
 refine ai fun I a w hs=>?_
 refine nn<|wp_seq<|hs.dk ?_
 refine du ?_
 refine .o (.c1 (B6 ..)) ?_
 refine de ?_
 refine .nil ?_
 intro I a w hs
 refine aG<|wp_ret ?_
 refine hs.rt ?_
 rfl
theorem PI (s:Server) (key:Int) (hk:cU key=true) (hl:s.aR.length=3):
 Fn Tryz.prog 127 [s.av,AV.int key] (AV.bool (eh s key !=0)):=by
 refine Fn.intro 13 Tryz.func127 rfl Tryz.ntmps127 rfl (by kernel_rfl) (fun W I a hs=>?_)
 have hr:=nF hk
 refine ai fun I a w hs=>?_
 refine nn<|wp_seq<|hs.dk ?_
 refine du ?_
 refine .o (.c1 (qW ..)) ?_
 refine eK ?_
 refine .nil ?_
 intro I a w hs
 refine aG<|wp_ret ?_
 refine hs.rt ?_
 rfl
theorem Cc (s:Server) (v:aK):
 Fn Tryz.prog 64 [s.av,v.av] (AV.bool (bV v.aA.site !=bV s.site)):=by
 refine Fn.intro 13 Tryz.func64 rfl Tryz.ntmps64 rfl (by kernel_rfl) (fun W I a hs=>?_)
 refine aB fun I a w hs=>?_
 refine nn<|wp_seq<|hs.dk ?_
 refine du ?_
 refine .o (.c1 (we ..)) ?_
 refine cq ?_
 refine .o (.c1 (we ..)) ?_
 refine cq ?_
 refine .nil ?_
 intro I a w hs
 refine aG<|wp_ret ?_
 refine hs.rt ?_
 rfl
set_option maxHeartbeats 4000000 in
theorem tZ (s:Server):
 Fn Tryz.prog 32 [s.av] (AV.bool (fV s)):=by
 refine Fn.intro 127 Tryz.func32 rfl Tryz.ntmps32 rfl (by kernel_rfl) (fun W I a hs=>?_)
 have lens:s.aR.length≤9223372036854775807∧s.aq.length≤9223372036854775807∧s.waits.length≤9223372036854775807∧s.aH.length≤9223372036854775807:=by
  obtain⟨cs,_,hc⟩:=hs.env 0 _ rfl
  obtain⟨u1,_,h1,_⟩:=hc.get (i:=2) rfl
  obtain⟨u2,_,h2,_⟩:=hc.get (i:=3) rfl
  obtain⟨u3,_,h3,_⟩:=hc.get (i:=4) rfl
  obtain⟨u4,_,h4,_⟩:=hc.get (i:=5) rfl
  exact⟨bL h1,bL h2,bL h3,bL h4⟩
 refine aJ fun I a w hs=>?_
 refine hs.o (.c1 (pU ..)) fun hs=>?_
 refine kq fun I a w hs=>?_
 refine hs.q .F (.cl (wh ..)) fun hs=>?_
 refine aW fun I a w hs=>?_
 refine hs.q .F (.cl (wh ..)) fun hs=>?_
 refine aW fun I a w hs=>?_
 refine hs.q .F (.cl (B3 ..)) fun hs=>?_
 refine aW fun I a w hs=>?_
 refine hs.q .F (.cl (B3 ..)) fun hs=>?_
 refine nz fun I a w hs=>?_
 refine nn ?_
 refine hs.cd (fun ae=>?_) fun ae=>?_
 ·rw[yx] at ae;replace ae:=nt ae
  refine az fun I a w hs=>?_
  refine nn<|wp_ret<|aE ?_
  refine hs.rt ?_
  exact bM (by unfold fV;rw[ae];rfl)
 ·rw[yx] at ae;replace ae:=nf ae;obtain⟨wi,sE,Cd,PJ,PK,PL⟩:=Ca ae
  refine aJ fun I a w hs=>?_
  refine nn<|wp_block ?_
  refine St.lo (σ:=Nat) (2::(4::(run 25 57 []))) ⟨fun k1=>[(57,AV.int k1)],fun k1=>[],fun k1=>k1≤s.aR.length∧∀i,i<k1→(oD s) i=true⟩ (fun k1=>s.aR.length-k1) 0 hs ?aN ?aO
  case aN=>exact⟨Nat.zero_le _,fun i hi=>by omega⟩
  case aO=>
   rintro k1 I a w al hs
   obtain⟨PM,sF⟩:=al
   refine az fun I a w hs=>?_
   refine nn<|wp_seq ?_
   refine hs.cd (fun ah=>?_) fun ah=>?_
   ·try simp only[B] at ah
    refine ai fun I a w hs=>?_
    refine hs.alloc rfl dz lZ fun b4 I a w hs=>?_
    refine hs.sb 0 fun hs=>?_
    obtain⟨I,hs⟩:=hs.fb 0 4
    refine ai fun I a w hs=>?_
    refine hs.o (.cl (hC ..)) fun hs=>?_
    refine aJ fun I a w hs=>?_
    refine hs.q .F (.cl (hC ..)) fun hs=>?_
    refine pS fun I a w hs=>?_
    refine nn ?_
    refine hs.cd (fun aj=>?_) fun aj=>?_
    ·rw[B9] at aj;replace aj:=nt aj
     refine az fun I a w hs=>?_
     refine nn<|wp_ret<|bh<|aE<|aE<|bh<|aE ?_
     refine hs.rt ?_
     exact bM (by unfold fV;rw[ae,eP (f:=oD s) ah aj];simp)
    ·rw[B9] at aj;replace aj:=nf aj
     refine ai fun I a w hs=>?_
     refine nn ?_
     have hs:=hs.drop 0
     exact hs.ag (k1+1) (⟨by omega,fD sF aj⟩)
   ·try simp only[B] at ah
    refine wp_exit<|aF<|aF<|aY ?_
    refine aJ fun I a w hs=>?_
    refine nn<|wp_block ?_
    refine St.lo (σ:=Nat) (2::(6::(run 10 85 []))) ⟨fun k2=>[(85,AV.int k2)],fun k2=>[],fun k2=>k2≤s.aq.length∧∀i,i<k2→(pV s) i=true⟩ (fun k2=>s.aq.length-k2) 0 hs ?dT ?dU
    case dT=>exact⟨Nat.zero_le _,fun i hi=>by omega⟩
    case dU=>
     rintro k2 I a w al hs
     obtain⟨ua,im⟩:=al
     refine az fun I a w hs=>?_
     refine nn<|wp_seq ?_
     refine hs.cd (fun aI=>?_) fun aI=>?_
     ·try simp only[B] at aI
      refine ai fun I a w hs=>?_
      refine hs.alloc rfl bt dO fun b6 I a w hs=>?_
      refine hs.sb 0 fun hs=>?_
      obtain⟨I,hs⟩:=hs.fb 0 6
      refine aB fun I a w hs=>?_
      refine hs.o (.c2 (Cb _ _ (nE (qY sE aI)) wi)) fun hs=>hs.o .si fun hs=>nn ?_
      refine hs.cd (fun aL=>?_) fun aL=>?_
      ·rw[Hj] at aL;replace aL:=nt aL
       refine az fun I a w hs=>?_
       refine nn<|wp_ret<|bh<|aE<|aE<|bh<|aE ?_
       refine hs.rt ?_
       exact bM (by unfold fV;rw[ae,eJ sF (by omega),eP (f:=pV s) aI aL];simp)
      ·rw[Hj] at aL;replace aL:=nf aL
       refine ai fun I a w hs=>?_
       refine nn ?_
       have hs:=hs.drop 0
       exact hs.ag (k2+1) (⟨by omega,fD im aL⟩)
     ·try simp only[B] at aI
      refine wp_exit<|aF<|aF<|aY ?_
      refine aJ fun I a w hs=>?_
      refine nn<|wp_block ?_
      refine St.lo (σ:=Nat) (2::(8::(run 24 98 []))) ⟨fun k3=>[(98,AV.int k3)],fun k3=>[],fun k3=>k3≤s.waits.length∧∀i,i<k3→(oE s) i=true⟩ (fun k3=>s.waits.length-k3) 0 hs ?iq ?ir
      case iq=>exact⟨Nat.zero_le _,fun i hi=>by omega⟩
      case ir=>
       rintro k3 I a w al hs
       obtain⟨Hl,qZ⟩:=al
       refine az fun I a w hs=>?_
       refine nn<|wp_seq ?_
       refine hs.cd (fun bf=>?_) fun bf=>?_
       ·try simp only[B] at bf
        refine ai fun I a w hs=>?_
        refine hs.alloc rfl bt dO fun b8 I a w hs=>?_
        refine hs.sb 0 fun hs=>?_
        obtain⟨I,hs⟩:=hs.fb 0 8
        refine nn<|wp_seq<|hs.dk ?_
        refine du ?_
        refine .o (.c2 (Cb _ _ (nE (qY Cd bf)) wi)) ?_
        refine de ?_
        refine .q .F (.cl (Cc ..)) ?_
        refine fP ?_
        refine .q .F (.cl (l4 ..)) ?_
        refine .q .F (.cl (oC ..)) ?_
        refine cq ?_
        refine .nil ?_
        intro I a w hs
        refine aG ?_
        refine hs.cd (fun aX=>?_) fun aX=>?_
        ·rw[Hk] at aX;replace aX:=nt aX
         refine az fun I a w hs=>?_
         refine nn<|wp_ret<|bh<|aE<|aE<|bh<|aE ?_
         refine hs.rt ?_
         exact bM (by unfold fV;rw[ae,eJ sF (by omega),eJ im (by omega),eP (f:=oE s) bf aX];simp)
        ·rw[Hk] at aX;replace aX:=nf aX
         refine ai fun I a w hs=>?_
         refine nn ?_
         have hs:=hs.drop 0
         exact hs.ag (k3+1) (⟨by omega,fD qZ aX⟩)
       ·try simp only[B] at bf
        refine wp_exit<|aF<|aF<|aY ?_
        refine aJ fun I a w hs=>?_
        refine hs.o (.cl (PH ..)) fun hs=>?_
        refine hs.s fun hs=>nn<|wp_ret ?_
        refine hs.rt ?_
        exact bM (by unfold fV;rw[ae,eJ sF (by omega),eJ im (by omega),eJ qZ (by omega)];simp)
theorem Hm:∀(l:List ar) (last:Int),db last l=true→last≤5→(l.length:Int)≤5-last
 |[],last,_,h=>by simp;omega
 |d::r,last,h,hl=>by
  simp only[db,Bool.and_eq_true,aQ,decide_eq_true_eq] at h
  have:=Hm r d.key h.2 (by omega)
  simp;omega
theorem PN {l:List ar} (h:bT l=true):l.length≤6:=by
 have:=Hm l (-1) h (by omega);omega
theorem PO {v:aK} (h:et v=true):v.aS.length≤6:=by
 simp only[et,Bool.and_eq_true] at h;exact PN h.1.2
def iQ (l:List aK) (d:ar):Option aK:=if cg l=true∧0≤placeOf l d then some (ab l (placeOf l d).toNat) else none
theorem Hn (key:Int) (st:ct) (v:aK):((v.key==key)&&([v.aA.time,v.aA.site]==[st.time,st.site]))=ln ⟨key,st⟩ v:=by
 obtain⟨t,s⟩:=st
 obtain⟨vk,⟨vt,vs⟩,_,_,_,_⟩:=v
 rw[Bool.eq_iff_iff];simp[ln,aK.bH]
theorem PQ {l:List aK} {d:ar} {k:Nat} (hc:cg l=true) (hk:k<l.length) (h:∀i,i<k→ln d (ab l i)=false) (hp:ln d (ab l k)=true):iQ l d=some (ab l k):=by
 have e:placeOf l d=k:=mM hk h hp
 unfold iQ;rw[e,if_pos ⟨hc,by omega⟩];rfl
theorem PR {l:List aK} {d:ar} {k:Nat} (hk:l.length≤k) (h:∀i,i<k→ln d (ab l i)=false):iQ l d=none:=by
 have e:placeOf l d=-1:=l5 hk h
 unfold iQ;rw[e,if_neg (by omega)]
theorem PS {l:List aK} {d:ar} (h:cg l=false):iQ l d=none:=by
 unfold iQ;rw[if_neg (by rw[h];simp)]
theorem ub {l:List aK} {d:ar} (hc:cg l=true):(iQ l d).isSome=decide (0≤placeOf l d):=by
 unfold iQ
 by_cases h:0≤placeOf l d
 ·rw[if_pos ⟨hc,h⟩];simp[h]
 ·rw[if_neg (by simp[h])];simp[h]
theorem mN (v:aK) (h:v.aS.length≤1048576):
 Fn Tryz.prog 128 [v.av] (v.av):=by
 refine Fn.intro 9 Tryz.func128 rfl Tryz.ntmps128 rfl (by kernel_rfl) (fun W I a hs=>?_)
 refine sr<|hs.box rfl .tt fun b1 I a w hs=>hs.alloc rfl bt dO fun b2 I a w hs=>nn<|sr ?_
 refine hs.cT rfl bA bk (by decide) fun b3 I a w hs=>?_
 refine ai fun I a w hs=>?_
 refine hs.append 2 rfl bA bk rfl .tt .r rfl (by simp;omega) fun v6 a w hs=>?_
 obtain⟨I,hs⟩:=hs.fr 2 6
 refine aJ fun I a w hs=>?_
 refine nn<|wp_ret ?_
 refine hs.ret rfl (.cons (.s 1 bt rfl rfl (by first|rfl|assumption)) aU.nil) ?_
 rfl
theorem pX (l:List aK) (key:Int) (st:ct):
 Fn Tryz.prog 79 [cv l,AV.int key,st.av] (AV.c9 [((iQ l ⟨key,st⟩).getD default).av,AV.bool (iQ l ⟨key,st⟩).isSome]):=by
 refine Fn.intro 41 Tryz.func79 rfl Tryz.ntmps79 rfl (by kernel_rfl) (fun W I a hs=>?_)
 have hle:=hs.ew (t:=0) rfl
 refine az fun I a w hs=>?_
 refine hs.alloc rfl bt dO fun b6 I a w hs=>?_
 refine ai fun I a w hs=>?_
 refine hs.o (.cl (qV ..)) fun hs=>?_
 refine hs.o .nt fun hs=>nn ?_
 refine hs.cd (fun ae=>?_) fun ae=>?_
 ·replace ae:=nt ae
  refine sr ?_
  refine hs.o (.bd dO aZ.nil) fun hs=>?_
  refine ai fun I a w hs=>?_
  refine nn<|wp_ret<|aE ?_
  refine hs.ret rfl (.cons (.s 0 bt rfl rfl (by first|rfl|assumption)) (.cons (.t rfl) aU.nil)) ?_
  exact(by rw[PS ae];rfl)
 ·replace ae:=nf ae
  refine az fun I a w hs=>?_
  refine nn<|wp_block ?_
  refine St.lo (σ:=Nat) (run 2 7 (run 27 13 [])) ⟨fun k=>[(8,AV.int k)],fun k=>[Own.box b6 100 [AV.val (.int .i64 0),AV.val (.int .i64 0),AV.val (.int .i64 0),AV.val (.int .i64 0),AV.val (.int .i64 0),AV.val (.int .i64 0),AV.rows 3 []]],fun k=>k≤l.length∧∀i,i<k→ln ⟨key,st⟩ (ab l i)=false⟩ (fun k=>l.length-k) 0 hs ?aN ?aO
  case aN=>exact⟨Nat.zero_le _,fun i hi=>by omega⟩
  case aO=>
   rintro k I a w al hs
   obtain⟨hk,aT⟩:=al
   refine aJ fun I a w hs=>?_
   refine nn ?_
   refine hs.cd (fun ah=>?_) fun ah=>?_
   ·try simp only[B] at ah
    refine wp_skip<|aG<|wp_seq<|wp_block<|wp_seq<|hs.dk ?_
    refine pT ?_
    refine .q .T (lf [_,_] [_,_] l3 rfl rfl .ag .ag) ?_
    refine bz ?_
    refine .nil ?_
    intro I a w hs
    refine aG ?_
    refine hs.cd (fun aj=>?_) fun aj=>?_
    ·rw[Hn] at aj
     refine aJ fun I a w hs=>?_
     refine hs.o (cI (mN _ (by have:=PO (qY ae ah);omega)) (aw (.t rfl) aP)) fun hs=>?_
     refine ai fun I a w hs=>?_
     refine nn<|wp_ret<|bh<|aE<|aE<|bh<|aE ?_
     refine hs.ret rfl (.cons (.s 0 bt rfl rfl (by first|rfl|assumption)) (.cons (.t rfl) aU.nil)) ?_
     exact(by rw[PQ ae ah aT aj];rfl)
    ·rw[Hn] at aj
     refine aB fun I a w hs=>?_
     refine nn ?_
     exact hs.ag (k+1) (⟨ah,fun i h1=>by rcases Nat.lt_succ_iff_lt_or_eq.1 h1 with h|h;exact aT i h;rw[h];exact aj⟩)
   ·try simp only[B] at ah
    refine wp_exit<|aF<|aF<|aY<|aG<|sr ?_
    refine hs.o (.bd dO aZ.nil) fun hs=>?_
    refine ai fun I a w hs=>?_
    refine nn<|wp_ret ?_
    refine hs.ret rfl (.cons (.s 0 bt rfl rfl (by first|rfl|assumption)) (.cons (.t rfl) aU.nil)) ?_
    exact(by rw[PR (by omega) aT];rfl)
def l6 (s:Server) (l:List aK) (i:Nat):Bool:=eh s (ab l i).key !=0
def sG (s:Server) (i:Nat):Bool:=!((decide (0≤placeOf s.aq (ab s.waits i).bH))||(bV (ab s.waits i).aA.site==bV s.site))
def oF (s:Server) (i:Nat):Bool:=decide (0≤placeOf s.aq (ab s.aH i))
theorem Ho (x:dt):(!aQ x.bO 0 9999||!aQ x.er 0 2||((x.er !=0)&&decide (x.bO<1)))=!nD x:=by
 rw[←B9]
 by_cases h:aQ x.bO 0 9999=true
 ·have e:decide (x.bO<1)=(x.bO==0):=by
   simp[aQ] at h
   rw[Bool.eq_iff_iff];simp;omega
  rw[e]
 ·simp[h]
theorem PT (s:Server) (i:Nat):oE s i=(l6 s s.waits i&&sG s i):=by
 unfold oE pW l6 sG
 have e:decide (placeOf s.aq (ab s.waits i).bH<0)=!decide (0≤placeOf s.aq (ab s.waits i).bH):=by rw[Bool.eq_iff_iff];simp
 rw[e]
 cases(eh s (ab s.waits i).key !=0)<;>cases decide (0≤placeOf s.aq (ab s.waits i).bH)<;>simp[bne]
theorem PU {n:Nat} {f g:Nat→Bool}:cO n (fun i=>f i&&g i)=(cO n f&&cO n g):=by
 rw[Bool.eq_iff_iff,Bool.and_eq_true,iy,iy,iy]
 exact⟨fun h=>⟨fun i hi=>(Bool.and_eq_true_iff.1 (h i hi)).1,fun i hi=>(Bool.and_eq_true_iff.1 (h i hi)).2⟩,fun h i hi=>Bool.and_eq_true_iff.2 ⟨h.1 i hi,h.2 i hi⟩⟩
theorem PV (s:Server):tY s.aq s.aH=cO s.aH.length (oF s):=by
 unfold tY hasB
 by_cases h:0≤dm (missing s.aq) s.aH
 ·obtain⟨k,hk,hm⟩:=B7 h
  have:oF s k=false:=by
   simp only[missing,decide_eq_true_eq] at hm
   simp only[oF,decide_eq_false_iff_not];omega
  rw[eP hk this];simp[h]
 ·have aT:=yw (p:=missing s.aq) (l:=s.aH) (by omega)
  have:cO s.aH.length (oF s)=true:=by
   rw[iy]
   intro i hi
   have:=aT i hi
   simp only[missing,decide_eq_false_iff_not] at this
   simp only[oF,decide_eq_true_eq];omega
  rw[this];simp[h]
theorem wj (s:Server):fV s=(qX s&&cO s.aR.length (oD s)&&(cO s.aq.length (l6 s s.aq)&&cO s.waits.length (l6 s s.waits))&&cO s.waits.length (sG s)&&cO s.aH.length (oF s)):=by
 unfold fV
 have e:cO s.waits.length (oE s)=(cO s.waits.length (l6 s s.waits)&&cO s.waits.length (sG s)):=by
  rw[←PU];exact vD rfl fun i _=>PT s i
 have e2:cO s.aq.length (pV s)=cO s.aq.length (l6 s s.aq):=rfl
 rw[e,e2,PV]
 cases qX s<;>cases cO s.aR.length (oD s)<;>cases cO s.aq.length (l6 s s.aq)<;>cases cO s.waits.length (l6 s s.waits)<;>simp
theorem Hp (s:Server) (i:Nat) (hc:cg s.aq=true):((iQ s.aq ⟨(ab s.waits i).key,(ab s.waits i).aA⟩).isSome||(bV (ab s.waits i).aA.site==bV s.site))=!sG s i:=by
 rw[ub hc]
 show _=!!(_||_)
 rw[Bool.not_not];rfl
theorem Hq (s:Server) (i:Nat) (hc:cg s.aq=true):(!(iQ s.aq ⟨(ab s.aH i).key,(ab s.aH i).aA⟩).isSome)=!oF s i:=by
 rw[ub hc];simp[oF]
theorem Hr (s:Server) (l:List aK) (hl:s.aR.length=3) (hc:cg l=true):
 Fn Tryz.prog 78 [s.av,cv l] (AV.bool (cO l.length (l6 s l))):=by
 refine Fn.intro 20 Tryz.func78 rfl Tryz.ntmps78 rfl (by kernel_rfl) (fun W I a hs=>?_)
 have hle:=hs.ew (t:=1) rfl
 refine aB fun I a w hs=>?_
 refine nn<|wp_block ?_
 refine St.lo (σ:=Nat) (run 16 4 []) ⟨fun k=>[(5,AV.int k)],fun k=>[],fun k=>k≤l.length∧∀i,i<k→(l6 s l) i=true⟩ (fun k=>l.length-k) 0 hs ?aN ?aO
 case aN=>exact⟨Nat.zero_le _,fun i hi=>by omega⟩
 case aO=>
  rintro k I a w al hs
  obtain⟨pY,aT⟩:=al
  refine aJ fun I a w hs=>?_
  refine nn ?_
  refine hs.cd (fun ae=>?_) fun ae=>?_
  ·try simp only[B] at ae
   refine wp_skip<|aG<|wp_seq<|wp_block<|wp_seq<|hs.dk ?_
   refine fP ?_
   refine .o (.c2 (PI _ _ (nE (qY hc ae)) hl)) ?_
   refine bz ?_
   refine .nil ?_
   intro I a w hs
   refine aG ?_
   refine hs.cd (fun ah=>?_) fun ah=>?_
   ·replace ah:=nt ah
    refine az fun I a w hs=>?_
    refine nn<|wp_ret<|bh<|aE<|aE<|bh<|aE ?_
    refine hs.rt ?_
    exact bM (eP (f:=l6 s l) ae ah).symm
   ·replace ah:=nf ah
    refine aB fun I a w hs=>?_
    refine nn ?_
    exact hs.ag (k+1) (⟨by omega,fD aT ah⟩)
  ·try simp only[B] at ae
   refine wp_exit<|aF<|aF<|aY ?_
   refine az fun I a w hs=>?_
   refine nn<|wp_ret ?_
   refine hs.rt ?_
   exact bM (eJ aT (by omega)).symm
set_option maxHeartbeats 4000000 in
theorem q4 (s:Server):
 Fn Tryz.prog 42 [s.av] (AV.bool (fV s)):=by
 refine Fn.intro 177 Tryz.func42 rfl Tryz.ntmps42 rfl (by kernel_rfl) (fun W I a hs=>?_)
 have lens:s.aR.length≤9223372036854775807∧s.aq.length≤9223372036854775807∧s.waits.length≤9223372036854775807∧s.aH.length≤9223372036854775807:=by
  obtain⟨cs,_,hc⟩:=hs.env 0 _ rfl
  obtain⟨u1,_,h1,_⟩:=hc.get (i:=2) rfl
  obtain⟨u2,_,h2,_⟩:=hc.get (i:=3) rfl
  obtain⟨u3,_,h3,_⟩:=hc.get (i:=4) rfl
  obtain⟨u4,_,h4,_⟩:=hc.get (i:=5) rfl
  exact⟨bL h1,bL h2,bL h3,bL h4⟩
 refine aJ fun I a w hs=>?_
 refine hs.o (.c1 (oA ..)) fun hs=>?_
 refine kq fun I a w hs=>?_
 refine hs.q .F (.cl (qV ..)) fun hs=>?_
 refine aW fun I a w hs=>?_
 refine hs.q .F (.cl (qV ..)) fun hs=>?_
 refine aW fun I a w hs=>?_
 refine hs.q .F (.cl (B4 ..)) fun hs=>?_
 refine aW fun I a w hs=>?_
 refine hs.q .F (.cl (B4 ..)) fun hs=>?_
 refine nz fun I a w hs=>?_
 refine nn ?_
 refine hs.cd (fun ae=>?_) fun ae=>?_
 ·rw[yx] at ae;replace ae:=nt ae
  refine az fun I a w hs=>?_
  refine nn<|wp_ret<|aE ?_
  refine hs.rt ?_
  exact bM (by unfold fV;rw[ae];rfl)
 ·rw[yx] at ae;replace ae:=nf ae;obtain⟨wi,sE,Cd,PJ,PK,PL⟩:=Ca ae
  refine az fun I a w hs=>?_
  refine nn<|wp_block ?_
  refine St.lo (σ:=Nat) (run 2 2 (run 43 55 [])) ⟨fun k1=>[(3,AV.int k1)],fun k1=>[],fun k1=>k1≤s.aR.length∧∀i,i<k1→(oD s) i=true⟩ (fun k1=>s.aR.length-k1) 0 hs ?aN ?aO
  case aN=>exact⟨Nat.zero_le _,fun i hi=>by omega⟩
  case aO=>
   rintro k1 I a w al hs
   obtain⟨PM,sF⟩:=al
   refine aW fun I a w hs=>?_
   refine nn ?_
   refine hs.cd (fun ah=>?_) fun ah=>?_
   ·try simp only[B] at ah
    refine cx fun I a w hs=>?_
    refine hs.o (.cl (gP ..)) fun hs=>?_
    refine gi fun I a w hs=>?_
    refine hs.q .F (.cl (gP ..)) fun hs=>?_
    refine yk fun I a w hs=>?_
    refine nn ?_
    refine hs.cd (fun aj=>?_) fun aj=>?_
    ·rw[Ho] at aj;replace aj:=nt aj
     refine az fun I a w hs=>?_
     refine nn<|wp_ret<|bh<|aE<|aE<|bh<|aE ?_
     refine hs.rt ?_
     exact bM (by rw[wj,ae,eP (f:=oD s) ah aj];simp)
    ·rw[Ho] at aj;replace aj:=nf aj
     refine aB fun I a w hs=>?_
     refine nn ?_
     exact hs.ag (k1+1) (⟨by omega,fD sF aj⟩)
   ·try simp only[B] at ah
    refine wp_exit<|aF<|aF<|aY ?_
    refine aB fun I a w hs=>?_
    refine hs.o (.cl (Hr _ _ wi sE)) fun hs=>?_
    refine aW fun I a w hs=>?_
    refine hs.q .F (.cl (Hr _ _ wi Cd)) fun hs=>?_
    refine ai fun I a w hs=>?_
    refine nn ?_
    refine hs.cd (fun aI=>?_) fun aI=>?_
    ·skip
     refine az fun I a w hs=>?_
     refine nn<|wp_ret<|aE ?_
     refine hs.rt ?_
     exact bM (by rw[wj,ae];revert aI;cases cO s.aq.length (l6 s s.aq)<;>cases cO s.waits.length (l6 s s.waits)<;>simp)
    ·rw[Bool.or_eq_false_iff] at aI;obtain⟨Ce,Cf⟩:=aI;replace Ce:=nf Ce;replace Cf:=nf Cf
     refine az fun I a w hs=>?_
     refine nn<|wp_block ?_
     refine St.lo (σ:=Nat) (2::(run 3 4 (run 40 110 []))) ⟨fun k2=>[(4,AV.int k2)],fun k2=>[],fun k2=>k2≤s.waits.length∧∀i,i<k2→(sG s) i=true⟩ (fun k2=>s.waits.length-k2) 0 hs ?dT ?dU
     case dT=>exact⟨Nat.zero_le _,fun i hi=>by omega⟩
     case dU=>
      rintro k2 I a w al hs
      obtain⟨ua,im⟩:=al
      refine aW fun I a w hs=>?_
      refine nn ?_
      refine hs.cd (fun aL=>?_) fun aL=>?_
      ·try simp only[B] at aL
       refine wp_skip<|aG<|wp_seq<|wp_block<|wp_seq ?_
       have hs:=hs.gN
       refine hs.eT [([],none),([],none),([],none),([],none),([],none),([],none),([],none),([],none),([],none),([],none),([],none),([],none),([],none),([],none),([],none),([],none),([],none),([],none),([0],some (0,[5])),([0],some (0,[5])),([],none)] (by kernel_rfl) (by kernel_rfl) rfl ?_
       refine pT ?_
       refine .o (.cl (pX ..)) ?_
       refine du ?_
       refine aV.alloc 0 rfl rfl bt dO<|aV.pL 0 rfl bt rfl .tt rfl rfl ?_
       refine bz ?_
       refine .nil ?_
       intro I a w hs
       obtain⟨b5,hs⟩:=hs.nw (d:=5) 0 rfl rfl
       obtain⟨I,hs⟩:=hs.fb 0 5
       refine aG<|wp_seq<|hs.dk ?_
       refine tQ ?_
       refine .q .F (.cl (nC ..)) ?_
       refine cq ?_
       refine .q .F (.cl (nC ..)) ?_
       refine cq ?_
       refine .nil ?_
       intro I a w hs
       refine aG ?_
       refine hs.cd (fun bf=>?_) fun bf=>?_
       ·rw[Hp s _ sE] at bf;replace bf:=nt bf
        refine az fun I a w hs=>?_
        refine nn<|wp_ret<|bh<|aE<|aE<|bh<|aE ?_
        refine hs.rt ?_
        exact bM (by rw[wj,ae,eP (f:=sG s) aL bf];simp)
       ·rw[Hp s _ sE] at bf;replace bf:=nf bf
        refine aB fun I a w hs=>?_
        refine nn ?_
        have hs:=hs.drop 0
        exact hs.ag (k2+1) (⟨by omega,fD im bf⟩)
      ·try simp only[B] at aL
       refine wp_exit<|aF<|aF<|aY ?_
       refine az fun I a w hs=>?_
       refine nn<|wp_block ?_
       refine St.lo (σ:=Nat) (2::(run 3 7 (run 27 150 []))) ⟨fun k3=>[(7,AV.int k3)],fun k3=>[],fun k3=>k3≤s.aH.length∧∀i,i<k3→(oF s) i=true⟩ (fun k3=>s.aH.length-k3) 0 hs ?iq ?ir
       case iq=>exact⟨Nat.zero_le _,fun i hi=>by omega⟩
       case ir=>
        rintro k3 I a w al hs
        obtain⟨Hl,qZ⟩:=al
        refine aW fun I a w hs=>?_
        refine nn ?_
        refine hs.cd (fun aX=>?_) fun aX=>?_
        ·try simp only[B] at aX
         refine wp_skip<|aG<|wp_seq<|wp_block<|wp_seq ?_
         have hs:=hs.gN
         refine hs.eT [([],none),([],none),([],none),([],none),([],none),([],none),([],none),([],none),([],none),([],none),([],none),([],none),([],none),([],none),([],none),([],none),([],none),([],none),([0],some (0,[8])),([0],some (0,[8])),([],none)] (by kernel_rfl) (by kernel_rfl) rfl ?_
         refine pT ?_
         refine .o (.cl (pX ..)) ?_
         refine du ?_
         refine aV.alloc 0 rfl rfl bt dO<|aV.pL 0 rfl bt rfl .tt rfl rfl ?_
         refine bz ?_
         refine .nil ?_
         intro I a w hs
         obtain⟨b8,hs⟩:=hs.nw (d:=8) 0 rfl rfl
         obtain⟨I,hs⟩:=hs.fb 0 8
         refine ai fun I a w hs=>?_
         refine nn ?_
         refine hs.cd (fun bU=>?_) fun bU=>?_
         ·rw[Hq s _ sE] at bU;replace bU:=nt bU
          refine az fun I a w hs=>?_
          refine nn<|wp_ret<|bh<|aE<|aE<|bh<|aE ?_
          refine hs.rt ?_
          exact bM (by rw[wj,ae,eP (f:=oF s) aX bU];simp)
         ·rw[Hq s _ sE] at bU;replace bU:=nf bU
          refine aB fun I a w hs=>?_
          refine nn ?_
          have hs:=hs.drop 0
          exact hs.ag (k3+1) (⟨by omega,fD qZ bU⟩)
        ·try simp only[B] at aX
         refine wp_exit<|aF<|aF<|aY ?_
         refine az fun I a w hs=>?_
         refine nn<|wp_ret ?_
         refine hs.rt ?_
         exact bM (by rw[wj,ae,eJ sF (by omega),Ce,Cf,eJ im (by omega),eJ qZ (by omega)];rfl)
end Go.Proofs.YtoeioeimmfpefaaGreat
