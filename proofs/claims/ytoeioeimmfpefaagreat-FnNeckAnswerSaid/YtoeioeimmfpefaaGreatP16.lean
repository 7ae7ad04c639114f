/- Part 16: rules of the proofs, contracts of functions, plain facts. -/
import Derived.Test.YtoeioeimmfpefaaGreatP15
set_option linter.unusedVariables false
set_option linter.unusedSimpArgs false
set_option maxRecDepth 100000
set_option maxHeartbeats 4000000
namespace Go.Proofs.YtoeioeimmfpefaaGreat
open Go Go.RowKit
attribute [local irreducible] wpList Code.wp Ok
theorem hC (n a b:Int):
 Fn Tryz.prog 31 [AV.int n,AV.int a,AV.int b] (AV.bool (aQ n a b)):=by
 refine Fn.intro 15 Tryz.func31 rfl Tryz.ntmps31 rfl (by kernel_rfl) (fun W I a hs=>?_)
 refine kq fun I a w hs=>?_
 refine nn<|wp_ret ?_
 refine hs.rt ?_
 rfl
theorem gP (n a b:Int):
 Fn Tryz.prog 40 [AV.int n,AV.int a,AV.int b] (AV.bool (aQ n a b)):=by
 refine Fn.intro 15 Tryz.func40 rfl Tryz.ntmps40 rfl (by kernel_rfl) (fun W I a hs=>?_)
 refine kq fun I a w hs=>?_
 refine nn<|wp_ret ?_
 refine hs.rt ?_
 exact bM (by simp only[aQ,ge_iff_le])
theorem pU (n:Int):
 Fn Tryz.prog 53 [AV.int n] (AV.bool (cJ n)):=by
 refine Fn.intro 5 Tryz.func53 rfl Tryz.ntmps53 rfl (by kernel_rfl) (fun W I a hs=>?_)
 refine ai fun I a w hs=>?_
 refine hs.o (.cl (hC ..)) fun hs=>?_
 refine hs.s fun hs=>nn<|wp_ret ?_
 refine hs.rt ?_
 rfl
theorem oA (n:Int):
 Fn Tryz.prog 52 [AV.int n] (AV.bool (cJ n)):=by
 refine Fn.intro 5 Tryz.func52 rfl Tryz.ntmps52 rfl (by kernel_rfl) (fun W I a hs=>?_)
 refine ai fun I a w hs=>?_
 refine hs.o (.cl (gP ..)) fun hs=>?_
 refine hs.s fun hs=>nn<|wp_ret ?_
 refine hs.rt ?_
 rfl
theorem wb (n:Int):
 Fn Tryz.prog 70 [AV.int n] (AV.bool (cU n)):=by
 refine Fn.intro 5 Tryz.func70 rfl Tryz.ntmps70 rfl (by kernel_rfl) (fun W I a hs=>?_)
 refine ai fun I a w hs=>?_
 refine hs.o (.cl (hC ..)) fun hs=>?_
 refine hs.s fun hs=>nn<|wp_ret ?_
 refine hs.rt ?_
 rfl
theorem qU (n:Int):
 Fn Tryz.prog 82 [AV.int n] (AV.bool (cU n)):=by
 refine Fn.intro 5 Tryz.func82 rfl Tryz.ntmps82 rfl (by kernel_rfl) (fun W I a hs=>?_)
 refine ai fun I a w hs=>?_
 refine hs.o (.cl (gP ..)) fun hs=>?_
 refine hs.s fun hs=>nn<|wp_ret ?_
 refine hs.rt ?_
 rfl
theorem wc (n:Int):
 Fn Tryz.prog 115 [AV.int n] (AV.bool (eC n)):=by
 refine Fn.intro 5 Tryz.func115 rfl Tryz.ntmps115 rfl (by kernel_rfl) (fun W I a hs=>?_)
 refine ai fun I a w hs=>?_
 refine hs.o (.cl (hC ..)) fun hs=>?_
 refine hs.s fun hs=>nn<|wp_ret ?_
 refine hs.rt ?_
 rfl
theorem tV (s:ct):
 Fn Tryz.prog 73 [s.av] (AV.bool (c6 s)):=by
 refine Fn.intro 11 Tryz.func73 rfl Tryz.ntmps73 rfl (by kernel_rfl) (fun W I a hs=>?_)
 refine aJ fun I a w hs=>?_
 refine hs.o (.cl (hC ..)) fun hs=>?_
 refine aB fun I a w hs=>?_
 refine hs.q .T (.cl (pU ..)) fun hs=>?_
 refine ai fun I a w hs=>?_
 refine nn<|wp_ret ?_
 refine hs.rt ?_
 rfl
theorem sC (s:ct):
 Fn Tryz.prog 84 [s.av] (AV.bool (c6 s)):=by
 refine Fn.intro 11 Tryz.func84 rfl Tryz.ntmps84 rfl (by kernel_rfl) (fun W I a hs=>?_)
 refine aJ fun I a w hs=>?_
 refine hs.o (.cl (gP ..)) fun hs=>?_
 refine aB fun I a w hs=>?_
 refine hs.q .T (.cl (oA ..)) fun hs=>?_
 refine ai fun I a w hs=>?_
 refine nn<|wp_ret ?_
 refine hs.rt ?_
 rfl
theorem sD (s:ct):
 Fn Tryz.prog 116 [s.av] (AV.bool (dR s)):=by
 refine Fn.intro 6 Tryz.func116 rfl Tryz.ntmps116 rfl (by kernel_rfl) (fun W I a hs=>?_)
 refine aB fun I a w hs=>?_
 refine hs.o (.bd iC aZ.nil) fun hs=>?_
 refine hs.o (lf [_,_] [_,_] l3 rfl rfl .tt .tt) fun hs=>hs.s fun hs=>nn<|wp_ret ?_
 refine hs.rt ?_
 exact bM (by simp[dR])
theorem G6 (s:ct):
 Fn Tryz.prog 83 [s.av] (AV.bool (jz s)):=by
 refine Fn.intro 10 Tryz.func83 rfl Tryz.ntmps83 rfl (by kernel_rfl) (fun W I a hs=>?_)
 refine aB fun I a w hs=>?_
 refine hs.o (.bd iC aZ.nil) fun hs=>?_
 refine hs.o (lf [_,_] [_,_] l3 rfl rfl .tt .tt) fun hs=>?_
 refine ai fun I a w hs=>?_
 refine hs.q .F (.cl (sC ..)) fun hs=>?_
 refine ai fun I a w hs=>?_
 refine nn<|wp_ret ?_
 refine hs.rt ?_
 exact bM (by simp[jz,dR])
theorem G7 (s:ct):
 Fn Tryz.prog 71 [s.av] (AV.bool (jz s)):=by
 refine Fn.intro 9 Tryz.func71 rfl Tryz.ntmps71 rfl (by kernel_rfl) (fun W I a hs=>?_)
 refine aB fun I a w hs=>?_
 refine hs.o (.c1 (sD ..)) fun hs=>?_
 refine ai fun I a w hs=>?_
 refine hs.q .F (.cl (tV ..)) fun hs=>?_
 refine ai fun I a w hs=>?_
 refine nn<|wp_ret ?_
 refine hs.rt ?_
 rfl
theorem BW (s t:ct):
 Fn Tryz.prog 155 [s.av,t.av] (AV.bool (cY s t)):=by
 refine Fn.intro 24 Tryz.func155 rfl Tryz.ntmps155 rfl (by kernel_rfl) (fun W I a hs=>?_)
 refine v3 fun I a w hs=>?_
 refine nn<|wp_ret ?_
 refine hs.rt ?_
 rfl
theorem tW (s t:ct):
 Fn Tryz.prog 124 [s.av,t.av] (AV.bool (cY s t)):=by
 refine Fn.intro 24 Tryz.func124 rfl Tryz.ntmps124 rfl (by kernel_rfl) (fun W I a hs=>?_)
 refine v3 fun I a w hs=>?_
 refine nn<|wp_ret ?_
 refine hs.rt ?_
 rfl
theorem we (n:Int):
 Fn Tryz.prog 110 [AV.int n] (AV.int (bV n)):=by
 refine Fn.intro 8 Tryz.func110 rfl Tryz.ntmps110 rfl (by kernel_rfl) (fun W I a hs=>?_)
 refine ai fun I a w hs=>?_
 refine hs.o (.c1 (pU ..)) fun hs=>hs.o .nt fun hs=>nn ?_
 refine hs.cd (fun ae=>?_) fun ae=>?_
 ·try simp only[B] at ae
  refine az fun I a w hs=>?_
  refine nn<|wp_ret<|aE ?_
  refine hs.rt ?_
  exact fk (by simp[bV,ae])
 ·try simp only[B] at ae
  refine az fun I a w hs=>?_
  refine hs.o (tL .tt .c (fun _=>by simp[cJ,aQ] at ae;omega)) fun hs=>?_
  refine hs.s fun hs=>nn<|wp_ret ?_
  refine hs.rt ?_
  exact fk (by simp[bV,ae])
theorem nC (n:Int):
 Fn Tryz.prog 80 [AV.int n] (AV.int (bV n)):=by
 refine Fn.intro 8 Tryz.func80 rfl Tryz.ntmps80 rfl (by kernel_rfl) (fun W I a hs=>?_)
 refine ai fun I a w hs=>?_
 refine hs.o (.c1 (oA ..)) fun hs=>hs.o .nt fun hs=>nn ?_
 refine hs.cd (fun ae=>?_) fun ae=>?_
 ·try simp only[B] at ae
  refine az fun I a w hs=>?_
  refine nn<|wp_ret<|aE ?_
  refine hs.rt ?_
  exact fk (by simp[bV,ae])
 ·try simp only[B] at ae
  refine az fun I a w hs=>?_
  refine hs.o (tL .tt .c (fun _=>by simp[cJ,aQ] at ae;omega)) fun hs=>?_
  refine hs.s fun hs=>nn<|wp_ret ?_
  refine hs.rt ?_
  exact fk (by simp[bV,ae])
theorem yr (l:List ar):
 Fn Tryz.prog 38 [bl l] (AV.bool (bT l)):=by
 refine Fn.intro 27 Tryz.func38 rfl Tryz.ntmps38 rfl (by kernel_rfl) (fun W I a hs=>?_)
 refine aW fun I a w hs=>?_
 refine nn<|wp_block ?_
 refine St.lo (σ:=Nat×Int) (run 2 2 (5::(run 19 8 []))) ⟨fun⟨k,last⟩=>[(8,AV.int k),(3,AV.int last)],fun⟨k,last⟩=>[],fun⟨k,last⟩=>k≤l.length∧bT l=db last (l.drop k)∧-1≤last∧last≤5⟩ (fun⟨k,last⟩=>l.length-k) (0,-1) hs ?aN ?aO
 case aN=>exact⟨by simp,rfl,by omega,by omega⟩
 case aO=>
  rintro⟨k,last⟩ I a w al hs
  obtain⟨hk,hd,hl1,od⟩:=al
  have hle:=hs.ew (t:=0) rfl
  refine az fun I a w hs=>?_
  refine nn<|wp_seq ?_
  refine hs.cd (fun ae=>?_) fun ae=>?_
  ·try simp only[B] at ae
   refine ai fun I a w hs=>?_
   refine hs.alloc rfl bk eV fun b5 I a w hs=>?_
   refine hs.sb 0 fun hs=>?_
   obtain⟨I,hs⟩:=hs.fb 0 5
   refine aJ fun I a w hs=>?_
   refine hs.o (.cl (hC ..)) fun hs=>?_
   refine aJ fun I a w hs=>?_
   refine hs.q .F (.cl (tV ..)) fun hs=>?_
   refine ai fun I a w hs=>?_
   refine nn ?_
   refine hs.cd (fun ah=>?_) fun ah=>?_
   ·try simp only[B] at ah
    refine az fun I a w hs=>?_
    refine nn<|wp_ret<|aE<|bh<|aE<|aE<|bh<|aE ?_
    refine hs.rt ?_
    exact bM (by rw[hd,jw ae];simp only[db];rcases ah with h|h<;>simp[h])
   ·try simp only[B] at ah
    refine aW fun I a w hs=>?_
    refine nn ?_
    have hs:=hs.drop 0
    exact hs.ag (k+1,(ab l k).key) (by(rw[hd,jw ae];simp[db,ah,aQ];simp[aQ] at ah;omega))
  ·try simp only[B] at ae
   refine wp_exit<|aF<|aF<|aY ?_
   refine az fun I a w hs=>?_
   refine nn<|wp_ret ?_
   refine hs.rt ?_
   exact bM (by rw[hd,List.drop_eq_nil_of_le (by omega)];rfl)
def jc (l:List ar) (k:Nat):Int:=if k=0 then-1 else(ab l (k-1)).key
theorem G8 (l:List ar) (k:Nat):jc l (k+1)=(ab l k).key:=by simp[jc]
theorem G9 {l:List ar} {k:Nat} (hk:k<l.length):db (jc l k) (l.drop k)=(aQ (ab l k).key (jc l k+1) 5&&c6 (ab l k).aA&&db (jc l (k+1)) (l.drop (k+1))):=by
 rw[jw hk,G8];rfl
theorem Ha {l:List ar} {k:Nat} (hp:-1≤jc l k):(!cU (ab l k).key||!c6 (ab l k).aA||(decide (0<(k:Int))&&decide ((ab l k).key≤(ab l ((k:Int)-1).toNat).key)))=!(aQ (ab l k).key (jc l k+1) 5&&c6 (ab l k).aA):=by
 rw[show((k:Int)-1).toNat=k-1 from by omega]
 rcases Nat.eq_zero_or_pos k with rfl|h
 ·simp[jc,cU,aQ]
 ·have h0:k≠0:=by omega
  have BX:-1≤(ab l (k-1)).key:=by simpa[jc,h0] using hp
  have h1:(0<(k:Int)):=by omega
  simp only[jc,if_neg h0,cU,aQ]
  generalize (ab l (k-1)).key=p at*
  generalize (ab l k).key=q at*
  rw[Bool.eq_iff_iff]
  cases c6 (ab l k).aA<;>simp[h1]<;>omega
theorem Pw {l:List ar} {k:Nat} (hk:k<l.length) (hd:bT l=db (jc l k) (l.drop k)) (hp:-1≤jc l k) (h:(aQ (ab l k).key (jc l k+1) 5&&c6 (ab l k).aA)=true):
 k+1≤l.length∧bT l=db (jc l (k+1)) (l.drop (k+1))∧-1≤jc l (k+1):=by
 refine⟨hk,by rw[hd,G9 hk,h,Bool.true_and],?_⟩
 rw[G8]
 simp[aQ] at h;omega
theorem Px {l:List ar} {k:Nat} (hk:k<l.length) (hd:bT l=db (jc l k) (l.drop k)) (h:(aQ (ab l k).key (jc l k+1) 5&&c6 (ab l k).aA)=false):false=bT l:=by
 rw[hd,G9 hk,h,Bool.false_and]
theorem oB (l:List ar):
 Fn Tryz.prog 44 [bl l] (AV.bool (bT l)):=by
 refine Fn.intro 44 Tryz.func44 rfl Tryz.ntmps44 rfl (by kernel_rfl) (fun W I a hs=>?_)
 have hle:=hs.ew (t:=0) rfl
 refine ai fun I a w hs=>?_
 refine nn<|wp_block ?_
 refine St.lo (σ:=Nat) (run 42 2 []) ⟨fun k=>[(3,AV.int k)],fun k=>[],fun k=>k≤l.length∧bT l=db (jc l k) (l.drop k)∧-1≤jc l k⟩ (fun k=>l.length-k) 0 hs ?aN ?aO
 case aN=>exact⟨by simp,rfl,by simp[jc]⟩
 case aO=>
  rintro k I a w al hs
  obtain⟨hk,hd,hp⟩:=al
  refine aJ fun I a w hs=>?_
  refine nn ?_
  refine hs.cd (fun ae=>?_) fun ae=>?_
  ·try simp only[B] at ae
   refine wp_skip<|aG<|wp_seq<|wp_block<|wp_seq<|hs.dk ?_
   refine eK ?_
   refine .o (.c1 (qU ..)) ?_
   refine jS ?_
   refine .q .F (.cl (sC ..)) ?_
   refine lY ?_
   refine de ?_
   refine .nil ?_
   intro I a w hs
   refine aG ?_
   refine hs.cd (fun ah=>?_) fun ah=>?_
   ·rw[Ha hp] at ah;simp only[Bool.not_eq_true'] at ah
    refine az fun I a w hs=>?_
    refine nn<|wp_ret<|bh<|aE<|aE<|bh<|aE ?_
    refine hs.rt ?_
    exact bM (Px ae hd ah)
   ·rw[Ha hp] at ah;simp only[Bool.not_eq_false'] at ah
    refine aB fun I a w hs=>?_
    refine nn ?_
    exact hs.ag (k+1) (Pw ae hd hp ah)
  ·try simp only[B] at ae
   refine wp_exit<|aF<|aF<|aY ?_
   refine az fun I a w hs=>?_
   refine nn<|wp_ret ?_
   refine hs.rt ?_
   exact bM (by rw[hd,List.drop_eq_nil_of_le (by omega)];rfl)
theorem nt {b:Bool} (h:(!b)=true):b=false:=by simpa using h
theorem nf {b:Bool} (h:(!b)=false):b=true:=by simpa using h
theorem yt (l:List ar) (k:Nat) (t:Int):decide (t≤(ab l k).aA.time)=!decide ((ab l k).aA.time<t):=by
 rw[Bool.eq_iff_iff];simp
def BY (v:aK):Bool:=cU v.key&&c6 v.aA&&aQ v.val 0 9999&&eC v.aC&&aQ v.call 1 99&&bT v.aS
theorem yu (v:aK):(!cU v.key||!c6 v.aA||!aQ v.val 0 9999||!eC v.aC||!aQ v.call 1 99||!bT v.aS)=!BY v:=by simp[BY]
theorem tX (v:aK):et v=(BY v&&FT v.aA.time v.aS):=rfl
theorem BZ (v:aK):
 Fn Tryz.prog 107 [v.av] (AV.bool (et v)):=by
 refine Fn.intro 54 Tryz.func107 rfl Tryz.ntmps107 rfl (by kernel_rfl) (fun W I a hs=>?_)
 have B0:v.aS.length≤9223372036854775807:=by
  obtain⟨cs,_,hc⟩:=hs.env 0 _ rfl
  obtain⟨u,_,hu,_⟩:=hc.get (i:=6) rfl
  exact bL hu
 refine aJ fun I a w hs=>?_
 refine hs.o (.c1 (wb ..)) fun hs=>?_
 refine aJ fun I a w hs=>?_
 refine hs.q .F (.cl (tV ..)) fun hs=>?_
 refine aW fun I a w hs=>?_
 refine hs.q .F (.cl (hC ..)) fun hs=>?_
 refine aW fun I a w hs=>?_
 refine hs.q .F (.cl (wc ..)) fun hs=>?_
 refine aW fun I a w hs=>?_
 refine hs.q .F (.cl (hC ..)) fun hs=>?_
 refine aW fun I a w hs=>?_
 refine hs.q .F (.cl (yr ..)) fun hs=>?_
 refine ai fun I a w hs=>?_
 refine nn ?_
 refine hs.cd (fun ae=>?_) fun ae=>?_
 ·rw[yu v] at ae;replace ae:=nt ae
  refine az fun I a w hs=>?_
  refine nn<|wp_ret<|aE ?_
  refine hs.rt ?_
  exact bM (by rw[tX,ae];rfl)
 ·rw[yu v] at ae;replace ae:=nf ae
  refine aJ fun I a w hs=>?_
  refine nn<|wp_block ?_
  refine St.lo (σ:=Nat) (2::(4::(run 12 42 []))) ⟨fun k=>[(42,AV.int k)],fun k=>[],fun k=>k≤v.aS.length∧∀i,i<k→(fun i=>decide ((ab v.aS i).aA.time<v.aA.time)) i=true⟩ (fun k=>v.aS.length-k) 0 hs ?aN ?aO
  case aN=>exact⟨by simp,fun i hi=>by omega⟩
  case aO=>
   rintro k I a w al hs
   obtain⟨hk,aT⟩:=al
   have hle:v.aS.length≤9223372036854775807:=B0
   refine az fun I a w hs=>?_
   refine nn<|wp_seq ?_
   refine hs.cd (fun ah=>?_) fun ah=>?_
   ·try simp only[B] at ah
    refine ai fun I a w hs=>?_
    refine hs.alloc rfl bk eV fun b4 I a w hs=>?_
    refine hs.sb 0 fun hs=>?_
    obtain⟨I,hs⟩:=hs.fb 0 4
    refine dq fun I a w hs=>?_
    refine nn ?_
    refine hs.cd (fun aj=>?_) fun aj=>?_
    ·rw[yt] at aj;replace aj:=nt aj
     refine az fun I a w hs=>?_
     refine nn<|wp_ret<|bh<|aE<|aE<|bh<|aE ?_
     refine hs.rt ?_
     exact bM (by rw[tX,ae];exact(eP (f:=(fun i=>decide ((ab v.aS i).aA.time<v.aA.time))) ah aj).symm)
    ·rw[yt] at aj;replace aj:=nf aj
     refine ai fun I a w hs=>?_
     refine nn ?_
     have hs:=hs.drop 0
     exact hs.ag (k+1) (⟨by omega,fD aT aj⟩)
   ·try simp only[B] at ah
    refine wp_exit<|aF<|aF<|aY ?_
    refine az fun I a w hs=>?_
    refine nn<|wp_ret ?_
    refine hs.rt ?_
    exact bM (by rw[tX,ae];exact(eJ aT (by omega)).symm)
theorem B1 (v:aK):
 Fn Tryz.prog 125 [v.av] (AV.bool (et v)):=by
 refine Fn.intro 56 Tryz.func125 rfl Tryz.ntmps125 rfl (by kernel_rfl) (fun W I a hs=>?_)
 have B0:v.aS.length≤9223372036854775807:=by
  obtain⟨cs,_,hc⟩:=hs.env 0 _ rfl
  obtain⟨u,_,hu,_⟩:=hc.get (i:=6) rfl
  exact bL hu
 refine aJ fun I a w hs=>?_
 refine hs.o (.c1 (qU ..)) fun hs=>?_
 refine aJ fun I a w hs=>?_
 refine hs.q .F (.cl (sC ..)) fun hs=>?_
 refine aW fun I a w hs=>?_
 refine hs.q .F (.cl (gP ..)) fun hs=>?_
 refine aW fun I a w hs=>?_
 refine hs.q .F (.cl (gP ..)) fun hs=>?_
 refine aW fun I a w hs=>?_
 refine hs.q .F (.cl (gP ..)) fun hs=>?_
 refine aW fun I a w hs=>?_
 refine hs.q .F (.cl (oB ..)) fun hs=>?_
 refine ai fun I a w hs=>?_
 refine nn ?_
 refine hs.cd (fun ae=>?_) fun ae=>?_
 ·rw[show aQ v.aC 0 1=eC v.aC from rfl,yu v] at ae;replace ae:=nt ae
  refine az fun I a w hs=>?_
  refine nn<|wp_ret<|aE ?_
  refine hs.rt ?_
  exact bM (by rw[tX,ae];rfl)
 ·rw[show aQ v.aC 0 1=eC v.aC from rfl,yu v] at ae;replace ae:=nf ae
  refine az fun I a w hs=>?_
  refine nn<|wp_block ?_
  refine St.lo (σ:=Nat) (run 2 2 (run 18 38 [])) ⟨fun k=>[(3,AV.int k)],fun k=>[],fun k=>k≤v.aS.length∧∀i,i<k→(fun i=>decide ((ab v.aS i).aA.time<v.aA.time)) i=true⟩ (fun k=>v.aS.length-k) 0 hs ?aN ?aO
  case aN=>exact⟨by simp,fun i hi=>by omega⟩
  case aO=>
   rintro k I a w al hs
   obtain⟨hk,aT⟩:=al
   have hle:v.aS.length≤9223372036854775807:=B0
   refine aW fun I a w hs=>?_
   refine nn ?_
   refine hs.cd (fun ah=>?_) fun ah=>?_
   ·try simp only[B] at ah
    refine az fun I a w hs=>?_
    refine aG ?_
    refine hs.cd (fun aj=>?_) fun aj=>?_
    ·rw[yt] at aj;replace aj:=nt aj
     refine az fun I a w hs=>?_
     refine nn<|wp_ret<|bh<|aE<|aE<|bh<|aE ?_
     refine hs.rt ?_
     exact bM (by rw[tX,ae];exact(eP (f:=(fun i=>decide ((ab v.aS i).aA.time<v.aA.time))) ah aj).symm)
    ·rw[yt] at aj;replace aj:=nf aj
     refine aB fun I a w hs=>?_
     refine nn ?_
     exact hs.ag (k+1) (⟨by omega,fD aT aj⟩)
   ·try simp only[B] at ah
    refine wp_exit<|aF<|aF<|aY ?_
    refine az fun I a w hs=>?_
    refine nn<|wp_ret ?_
    refine hs.rt ?_
    exact bM (by rw[tX,ae];exact(eJ aT (by omega)).symm)
theorem l4 (v:aK):
 Fn Tryz.prog 66 [v.av] (v.bH.av):=by
 refine Fn.intro 8 Tryz.func66 rfl Tryz.ntmps66 rfl (by kernel_rfl) (fun W I a hs=>?_)
 refine az fun I a w hs=>?_
 refine hs.alloc rfl bk eV fun b2 I a w hs=>?_
 refine aJ fun I a w hs=>?_
 refine hs.o (.bd eV (.k (.t aZ.nil))) fun hs=>?_
 refine hs.sb 0 fun hs=>?_
 refine nn<|wp_ret ?_
 refine hs.ret rfl (.cons (.s 0 bk rfl rfl (by first|rfl|assumption)) aU.nil) ?_
 rfl
theorem yv (a b:ar):
 Fn Tryz.prog 108 [a.av,b.av] (AV.bool (dD a b)):=by
 refine Fn.intro 24 Tryz.func108 rfl Tryz.ntmps108 rfl (by kernel_rfl) (fun W I a hs=>?_)
 refine G2 fun I a w hs=>?_
 refine hs.q .T2 (.cl (BW ..)) fun hs=>?_
 refine aB fun I a w hs=>?_
 refine nn<|wp_ret ?_
 refine hs.rt ?_
 rfl
theorem Hb (a b:aK):
 Fn Tryz.prog 126 [a.av,b.av] (AV.bool (fE a b)):=by
 refine Fn.intro 24 Tryz.func126 rfl Tryz.ntmps126 rfl (by kernel_rfl) (fun W I a hs=>?_)
 refine G2 fun I a w hs=>?_
 refine hs.q .T2 (.cl (tW ..)) fun hs=>?_
 refine aB fun I a w hs=>?_
 refine nn<|wp_ret ?_
 refine hs.rt ?_
 rfl
theorem wg (n:Int):
 Fn Tryz.prog 81 [AV.int n] (AV.bool (aQ n 10 11)):=by
 refine Fn.intro 5 Tryz.func81 rfl Tryz.ntmps81 rfl (by kernel_rfl) (fun W I a hs=>?_)
 refine ai fun I a w hs=>?_
 refine hs.o (.cl (gP ..)) fun hs=>?_
 refine hs.s fun hs=>nn<|wp_ret ?_
 refine hs.rt ?_
 rfl
theorem Py (n:Int):eC (n-10)=aQ n 10 11:=by
 simp only[eC,aQ];rw[Bool.eq_iff_iff];simp;omega
theorem Pz {n:Int} (h:c8 n):eC (IntKind.i64.wrap (n-10))=eC (n-10):=by
 obtain⟨h1,h2⟩:=h
 by_cases h3:-9223372036854775808≤n-10
 ·rw[IntWalk.i64_in _ ⟨h3,by omega⟩]
 ·have e:IntKind.i64.wrap (n-10)=n-10+18446744073709551616:=by
   simp only[IntKind.wrap];simp[IntKind.signed,IntKind.bits];omega
  rw[e];simp only[eC,aQ]
  rw[Bool.eq_iff_iff];simp;omega
theorem Hc (n:Int) (hn:c8 n):
 Fn Tryz.prog 69 [AV.int n] (AV.bool (j7 n)):=by
 refine Fn.intro 10 Tryz.func69 rfl Tryz.ntmps69 rfl (by kernel_rfl) (fun W I a hs=>?_)
 refine ai fun I a w hs=>?_
 refine hs.o (.c1 (pU ..)) fun hs=>?_
 refine ai fun I a w hs=>?_
 refine hs.q .F (MJ (.g rfl (fun h=>h)) .c) fun hs=>?_
 refine hs.q .F (.cl (wc ..)) fun hs=>?_
 refine ai fun I a w hs=>?_
 refine nn<|wp_ret ?_
 refine hs.rt ?_
 exact bM (by rw[Pz hn,Py];rfl)
theorem B2 (l:List ar) (k:Nat):(!cU (ab l k).key||!c6 (ab l k).aA||(decide (0<(k:Int))&&!dD (ab l ((k:Int)-1).toNat) (ab l k)))=!ee jA dD l k:=by
 rw[←qK];simp[jA]
theorem Hd (l:List ar) (k:Nat):(!cU (ab l k).key||!c6 (ab l k).aA||(decide (0<(k:Int))&&(decide ((ab l k).key<(ab l ((k:Int)-1).toNat).key)||((ab l ((k:Int)-1).toNat).key==(ab l k).key&&!cY (ab l ((k:Int)-1).toNat).aA (ab l k).aA))))=!ee jA dD l k:=by
 rw[←B2]
 congr 2
 generalize ab l ((k:Int)-1).toNat=p
 generalize ab l k=q
 simp only[dD]
 rcases Int.lt_trichotomy p.key q.key with h|h|h
 ·have h1:¬q.key<p.key:=by omega
  have h2:(p.key==q.key)=false:=by simp;omega
  simp[h,h1,h2]
 ·simp[h]
 ·have h1:¬p.key<q.key:=by omega
  have h2:(p.key==q.key)=false:=by simp;omega
  simp[h,h1,h2]
theorem wh (l:List aK):
 Fn Tryz.prog 61 [cv l] (AV.bool (cg l)):=by
 refine Fn.intro 35 Tryz.func61 rfl Tryz.ntmps61 rfl (by kernel_rfl) (fun W I a hs=>?_)
 have hle:=hs.ew (t:=0) rfl
 refine aJ fun I a w hs=>?_
 refine nn<|wp_block ?_
 refine St.lo (σ:=Nat) (run 3 2 (run 25 7 [])) ⟨fun k=>[(7,AV.int k)],fun k=>[],fun k=>k≤l.length∧∀i,i<k→(ee et fE l) i=true⟩ (fun k=>l.length-k) 0 hs ?aN ?aO
 case aN=>exact⟨by simp,fun i hi=>by omega⟩
 case aO=>
  rintro k I a w al hs
  obtain⟨hk,aT⟩:=al
  refine az fun I a w hs=>?_
  refine nn<|wp_seq ?_
  refine hs.cd (fun ae=>?_) fun ae=>?_
  ·try simp only[B] at ae
   refine aB fun I a w hs=>?_
   refine hs.alloc rfl bt dO fun b4 I a w hs=>?_
   refine ai fun I a w hs=>?_
   obtain⟨I,hs⟩:=hs.fb 0 4
   refine nn<|wp_seq<|hs.dk ?_
   refine bz ?_
   refine .o (.c1 (BZ ..)) ?_
   refine mK ?_
   refine .q .T2 (.cl (l4 ..)) ?_
   refine bz ?_
   refine .q .T2 (.cl (l4 ..)) ?_
   refine .q .T2 (.cl (yv ..)) ?_
   refine du ?_
   refine .nil ?_
   intro I a w hs
   refine aG ?_
   refine hs.cd (fun ah=>?_) fun ah=>?_
   ·rw[show dD (ab l ((k:Int)-1).toNat).bH (ab l k).bH=fE (ab l ((k:Int)-1).toNat) (ab l k) from rfl,qK] at ah;replace ah:=nt ah
    refine az fun I a w hs=>?_
    refine nn<|wp_ret<|bh<|aE<|aE<|bh<|aE ?_
    refine hs.rt ?_
    exact bM (by unfold cg;rw[eP (f:=(ee et fE l)) ae ah];simp)
   ·rw[show dD (ab l ((k:Int)-1).toNat).bH (ab l k).bH=fE (ab l ((k:Int)-1).toNat) (ab l k) from rfl,qK] at ah;replace ah:=nf ah
    refine ai fun I a w hs=>?_
    refine nn ?_
    have hs:=hs.drop 0
    exact hs.ag (k+1) (⟨by omega,fD aT ah⟩)
  ·try simp only[B] at ae
   refine wp_exit<|aF<|aF<|aY ?_
   refine aJ fun I a w hs=>?_
   refine nn<|wp_ret ?_
   refine hs.rt ?_
   exact bM (by unfold cg;rw[eJ aT (by omega),Bool.and_true];simp;try omega)
theorem B3 (l:List ar):
 Fn Tryz.prog 62 [bl l] (AV.bool (fe l)):=by
 refine Fn.intro 40 Tryz.func62 rfl Tryz.ntmps62 rfl (by kernel_rfl) (fun W I a hs=>?_)
 have hle:=hs.ew (t:=0) rfl
 refine aJ fun I a w hs=>?_
 refine nn<|wp_block ?_
 refine St.lo (σ:=Nat) (run 3 2 (run 30 7 [])) ⟨fun k=>[(7,AV.int k)],fun k=>[],fun k=>k≤l.length∧∀i,i<k→(ee jA dD l) i=true⟩ (fun k=>l.length-k) 0 hs ?aN ?aO
 case aN=>exact⟨by simp,fun i hi=>by omega⟩
 case aO=>
  rintro k I a w al hs
  obtain⟨hk,aT⟩:=al
  refine az fun I a w hs=>?_
  refine nn<|wp_seq ?_
  refine hs.cd (fun ae=>?_) fun ae=>?_
  ·try simp only[B] at ae
   refine aB fun I a w hs=>?_
   refine hs.alloc rfl bk eV fun b4 I a w hs=>?_
   refine ai fun I a w hs=>?_
   obtain⟨I,hs⟩:=hs.fb 0 4
   refine nn<|wp_seq<|hs.dk ?_
   refine cq ?_
   refine .o (.c1 (wb ..)) ?_
   refine de ?_
   refine .q .F (.cl (tV ..)) ?_
   refine yl ?_
   refine .q .T2 (.cl (yv ..)) ?_
   refine du ?_
   refine .nil ?_
   intro I a w hs
   refine aG ?_
   refine hs.cd (fun ah=>?_) fun ah=>?_
   ·rw[B2] at ah;replace ah:=nt ah
    refine az fun I a w hs=>?_
    refine nn<|wp_ret<|bh<|aE<|aE<|bh<|aE ?_
    refine hs.rt ?_
    exact bM (by unfold fe;rw[eP (f:=(ee jA dD l)) ae ah];simp)
   ·rw[B2] at ah;replace ah:=nf ah
    refine ai fun I a w hs=>?_
    refine nn ?_
    have hs:=hs.drop 0
    exact hs.ag (k+1) (⟨by omega,fD aT ah⟩)
  ·try simp only[B] at ae
   refine wp_exit<|aF<|aF<|aY ?_
   refine aJ fun I a w hs=>?_
   refine nn<|wp_ret ?_
   refine hs.rt ?_
   exact bM (by unfold fe;rw[eJ aT (by omega),Bool.and_true];simp;try omega)
theorem qV (l:List aK):
 Fn Tryz.prog 76 [cv l] (AV.bool (cg l)):=by
 refine Fn.intro 36 Tryz.func76 rfl Tryz.ntmps76 rfl (by kernel_rfl) (fun W I a hs=>?_)
 have hle:=hs.ew (t:=0) rfl
 refine aJ fun I a w hs=>?_
 refine nn ?_
 refine hs.cd (fun ae=>?_) fun ae=>?_
 ·try simp only[B] at ae
  refine az fun I a w hs=>?_
  refine nn<|wp_ret<|aE ?_
  refine hs.rt ?_
  exact bM (by simp[cg];omega)
 ·try simp only[B] at ae
  refine az fun I a w hs=>?_
  refine nn<|wp_block ?_
  refine St.lo (σ:=Nat) (run 2 2 (run 29 7 [])) ⟨fun k=>[(3,AV.int k)],fun k=>[],fun k=>k≤l.length∧∀i,i<k→(ee et fE l) i=true⟩ (fun k=>l.length-k) 0 hs ?aN ?aO
  case aN=>exact⟨by simp,fun i hi=>by omega⟩
  case aO=>
   rintro k I a w al hs
   obtain⟨hk,aT⟩:=al
   refine aJ fun I a w hs=>?_
   refine nn ?_
   refine hs.cd (fun ah=>?_) fun ah=>?_
   ·try simp only[B] at ah
    refine wp_skip<|aG<|wp_seq<|wp_block<|wp_seq<|hs.dk ?_
    refine de ?_
    refine .o (.c1 (B1 ..)) ?_
    refine pT ?_
    refine .q .T2 (.cl (Hb ..)) ?_
    refine du ?_
    refine .nil ?_
    intro I a w hs
    refine aG ?_
    refine hs.cd (fun aj=>?_) fun aj=>?_
    ·rw[qK] at aj;replace aj:=nt aj
     refine az fun I a w hs=>?_
     refine nn<|wp_ret<|bh<|aE<|aE<|bh<|aE ?_
     refine hs.rt ?_
     exact bM (by unfold cg;rw[eP (f:=(ee et fE l)) ah aj];simp)
    ·rw[qK] at aj;replace aj:=nf aj
     refine aB fun I a w hs=>?_
     refine nn ?_
     exact hs.ag (k+1) (⟨by omega,fD aT aj⟩)
   ·try simp only[B] at ah
    refine wp_exit<|aF<|aF<|aY ?_
    refine az fun I a w hs=>?_
    refine nn<|wp_ret ?_
    refine hs.rt ?_
    exact bM (by unfold cg;rw[eJ aT (by omega),Bool.and_true];simp;omega)
theorem B4 (l:List ar):
 Fn Tryz.prog 77 [bl l] (AV.bool (fe l)):=by
 refine Fn.intro 66 Tryz.func77 rfl Tryz.ntmps77 rfl (by kernel_rfl) (fun W I a hs=>?_)
 have hle:=hs.ew (t:=0) rfl
 refine aJ fun I a w hs=>?_
 refine nn ?_
 refine hs.cd (fun ae=>?_) fun ae=>?_
 ·try simp only[B] at ae
  refine az fun I a w hs=>?_
  refine nn<|wp_ret<|aE ?_
  refine hs.rt ?_
  exact bM (by simp[fe];omega)
 ·try simp only[B] at ae
  refine az fun I a w hs=>?_
  refine nn<|wp_block ?_
  refine St.lo (σ:=Nat) (run 3 2 (run 58 8 [])) ⟨fun k=>[(3,AV.int k)],fun k=>[],fun k=>k≤l.length∧∀i,i<k→(ee jA dD l) i=true⟩ (fun k=>l.length-k) 0 hs ?aN ?aO
  case aN=>exact⟨by simp,fun i hi=>by omega⟩
  case aO=>
   rintro k I a w al hs
   obtain⟨hk,aT⟩:=al
   refine aJ fun I a w hs=>?_
   refine nn ?_
   refine hs.cd (fun ah=>?_) fun ah=>?_
   ·try simp only[B] at ah
    refine aJ fun I a w hs=>?_
    refine hs.alloc rfl bk eV fun b4 I a w hs=>?_
    refine hs.sb 0 fun hs=>?_
    obtain⟨I,hs⟩:=hs.fb 0 4
    refine nn<|wp_seq<|hs.dk ?_
    refine cq ?_
    refine .o (.c1 (qU ..)) ?_
    refine de ?_
    refine .q .F (.cl (sC ..)) ?_
    refine lY ?_
    refine lY ?_
    refine cq ?_
    refine .q .T2 (.cl (tW ..)) ?_
    refine eK ?_
    refine .nil ?_
    intro I a w hs
    refine aG ?_
    refine hs.cd (fun aj=>?_) fun aj=>?_
    ·rw[Hd] at aj;replace aj:=nt aj
     refine az fun I a w hs=>?_
     refine nn<|wp_ret<|bh<|aE<|aE<|bh<|aE ?_
     refine hs.rt ?_
     exact bM (by unfold fe;rw[eP (f:=(ee jA dD l)) ah aj];simp)
    ·rw[Hd] at aj;replace aj:=nf aj
     refine aB fun I a w hs=>?_
     refine nn ?_
     have hs:=hs.drop 0
     exact hs.ag (k+1) (⟨by omega,fD aT aj⟩)
   ·try simp only[B] at ah
    refine wp_exit<|aF<|aF<|aY ?_
    refine az fun I a w hs=>?_
    refine nn<|wp_ret ?_
    refine hs.rt ?_
    exact bM (by unfold fe;rw[eJ aT (by omega),Bool.and_true];simp;omega)
theorem He (m:aD) (h1:c8 m.bc) (h2:c8 m.to):
 Fn Tryz.prog 35 [m.av] (AV.bool (bN m)):=by
 refine Fn.intro 66 Tryz.func35 rfl Tryz.ntmps35 rfl (by kernel_rfl) (fun W I a hs=>?_)
 refine aJ fun I a w hs=>?_
 refine hs.o (.cl (hC ..)) fun hs=>?_
 refine aB fun I a w hs=>?_
 refine hs.q .T (.cl (Hc _ h1)) fun hs=>?_
 refine aJ fun I a w hs=>?_
 refine hs.q .T (.cl (Hc _ h2)) fun hs=>?_
 refine aJ fun I a w hs=>?_
 refine hs.q .T (.cl (hC ..)) fun hs=>?_
 refine aJ fun I a w hs=>?_
 refine hs.q .T (.cl (wb ..)) fun hs=>?_
 refine aJ fun I a w hs=>?_
 refine hs.q .T (.cl (G7 ..)) fun hs=>?_
 refine aJ fun I a w hs=>?_
 refine hs.q .T (.cl (hC ..)) fun hs=>?_
 refine aJ fun I a w hs=>?_
 refine hs.q .T (.cl (yr ..)) fun hs=>?_
 refine aJ fun I a w hs=>?_
 refine hs.q .T (.cl (hC ..)) fun hs=>?_
 refine aJ fun I a w hs=>?_
 refine hs.q .T (.cl (hC ..)) fun hs=>?_
 refine aJ fun I a w hs=>?_
 refine hs.q .T (.cl (wh ..)) fun hs=>?_
 refine aJ fun I a w hs=>?_
 refine hs.q .T (.cl (wh ..)) fun hs=>?_
 refine aJ fun I a w hs=>?_
 refine hs.q .T (.cl (B3 ..)) fun hs=>?_
 refine ai fun I a w hs=>?_
 refine nn<|wp_ret ?_
 refine hs.rt ?_
 rfl
theorem B5 (m:aD):
 Fn Tryz.prog 43 [m.av] (AV.bool (bN m)):=by
 refine Fn.intro 76 Tryz.func43 rfl Tryz.ntmps43 rfl (by kernel_rfl) (fun W I a hs=>?_)
 refine aJ fun I a w hs=>?_
 refine hs.o (.cl (gP ..)) fun hs=>?_
 refine aB fun I a w hs=>?_
 refine hs.q .T (.cl (oA ..)) fun hs=>?_
 refine aB fun I a w hs=>?_
 refine hs.q .F2 (.cl (wg ..)) fun hs=>?_
 refine aW fun I a w hs=>?_
 refine hs.q .T (.cl (oA ..)) fun hs=>?_
 refine aB fun I a w hs=>?_
 refine hs.q .F2 (.cl (wg ..)) fun hs=>?_
 refine aW fun I a w hs=>?_
 refine hs.q .T (.cl (gP ..)) fun hs=>?_
 refine aJ fun I a w hs=>?_
 refine hs.q .T (.cl (qU ..)) fun hs=>?_
 refine aJ fun I a w hs=>?_
 refine hs.q .T (.cl (G6 ..)) fun hs=>?_
 refine aJ fun I a w hs=>?_
 refine hs.q .T (.cl (gP ..)) fun hs=>?_
 refine aJ fun I a w hs=>?_
 refine hs.q .T (.cl (oB ..)) fun hs=>?_
 refine aJ fun I a w hs=>?_
 refine hs.q .T (.cl (gP ..)) fun hs=>?_
 refine aJ fun I a w hs=>?_
 refine hs.q .T (.cl (gP ..)) fun hs=>?_
 refine aJ fun I a w hs=>?_
 refine hs.q .T (.cl (qV ..)) fun hs=>?_
 refine aJ fun I a w hs=>?_
 refine hs.q .T (.cl (qV ..)) fun hs=>?_
 refine aJ fun I a w hs=>?_
 refine hs.q .T (.cl (B4 ..)) fun hs=>?_
 refine ai fun I a w hs=>?_
 refine nn<|wp_ret ?_
 refine hs.rt ?_
 rfl
theorem B6 (n:Int):
 Fn Tryz.prog 109 [AV.int n] (AV.int (gx n)):=by
 refine Fn.intro 9 Tryz.func109 rfl Tryz.ntmps109 rfl (by kernel_rfl) (fun W I a hs=>?_)
 refine ai fun I a w hs=>?_
 refine hs.o (.c1 (wb ..)) fun hs=>hs.o .nt fun hs=>nn ?_
 refine hs.cd (fun ae=>?_) fun ae=>?_
 ·try simp only[B] at ae
  refine az fun I a w hs=>?_
  refine nn<|wp_ret<|aE ?_
  refine hs.rt ?_
  exact fk (by simp[gx,ae])
 ·try simp only[B] at ae
  refine az fun I a w hs=>?_
  refine hs.o (mz .tt .c (fun _=>by simp[cU,aQ] at ae;omega)) fun hs=>?_
  refine hs.o (tL .tt .c (fun _=>by simp[cU,aQ] at ae;omega)) fun hs=>?_
  refine hs.s fun hs=>nn<|wp_ret ?_
  refine hs.rt ?_
  exact fk (by simp[gx,ae])
theorem qW (n:Int):
 Fn Tryz.prog 161 [AV.int n] (AV.int (gx n)):=by
 refine Fn.intro 9 Tryz.func161 rfl Tryz.ntmps161 rfl (by kernel_rfl) (fun W I a hs=>?_)
 refine ai fun I a w hs=>?_
 refine hs.o (.c1 (qU ..)) fun hs=>hs.o .nt fun hs=>nn ?_
 refine hs.cd (fun ae=>?_) fun ae=>?_
 ·try simp only[B] at ae
  refine az fun I a w hs=>?_
  refine nn<|wp_ret<|aE ?_
  refine hs.rt ?_
  exact fk (by simp[gx,ae])
 ·try simp only[B] at ae
  refine az fun I a w hs=>?_
  refine hs.o (mz .tt .c (fun _=>by simp[cU,aQ] at ae;omega)) fun hs=>?_
  refine hs.o (tL .tt .c (fun _=>by simp[cU,aQ] at ae;omega)) fun hs=>?_
  refine hs.s fun hs=>nn<|wp_ret ?_
  refine hs.rt ?_
  exact fk (by simp[gx,ae])
end Go.Proofs.YtoeioeimmfpefaaGreat
