/- Part 49: rules of the proofs, contracts of functions, plain facts. -/
import Derived.Test.YtoeioeimmfpefaaGreatP48
set_option linter.unusedVariables false
set_option linter.unusedSimpArgs false
set_option maxRecDepth 100000
set_option maxHeartbeats 4000000
namespace Go.Proofs.YtoeioeimmfpefaaGreat
open Go Go.RowKit
attribute [local irreducible] wpList Code.wp Ok
theorem rK (l:List ar):
 Fn Tryz.prog 30 [bl l,bl l] (AV.bool true):=by
 refine Fn.intro 26 Tryz.func30 rfl Tryz.ntmps30 rfl (by kernel_rfl) (fun W I a hs=>?_)
 have hle:=hs.ew (t:=0) rfl
 refine cx fun I a w hs=>?_
 refine nn ?_
 refine hs.cd (fun ae=>?_) fun ae=>?_
 ·exfalso;simp at ae
  skip
 ·skip
  refine az fun I a w hs=>?_
  refine nn<|wp_block ?_
  refine St.lo (σ:=Nat) (run 2 4 (run 15 11 [])) ⟨fun k=>[(5,AV.int k)],fun k=>[],fun k=>k≤l.length⟩ (fun k=>l.length-k) 0 hs ?aN ?aO
  case aN=>exact Nat.zero_le _
  case aO=>
   rintro k I a w al hs
   have hk:k≤l.length:=al
   refine aJ fun I a w hs=>?_
   refine nn ?_
   refine hs.cd (fun ah=>?_) fun ah=>?_
   ·try simp only[B] at ah
    refine wp_skip<|aG<|wp_seq<|wp_block<|wp_seq<|hs.dk ?_
    refine mJ ?_
    refine .o (r6 [_,_,_] [_,_,_] tU rfl rfl .tt .tt)<|.nil ?_
    intro I a w hs
    refine aG ?_
    refine hs.cd (fun aj=>?_) fun aj=>?_
    ·exfalso;simp at aj
     skip
    ·skip
     refine aB fun I a w hs=>?_
     refine nn ?_
     exact hs.ag (k+1) (ah)
   ·try simp only[B] at ah
    refine wp_exit<|aF<|aF<|aY ?_
    refine az fun I a w hs=>?_
    refine nn<|wp_ret ?_
    refine hs.rt ?_
    rfl
theorem LQ (v:aK):
 Fn Tryz.prog 92 [v.av,v.av] (AV.bool true):=by
 refine Fn.intro 45 Tryz.func92 rfl Tryz.ntmps92 rfl (by kernel_rfl) (fun W I a hs=>?_)
 refine nz fun I a w hs=>?_
 refine hs.q .T (lf [_,_] [_,_] l3 rfl rfl .ag .ag) fun hs=>?_
 refine Oy fun I a w hs=>?_
 refine hs.q .T (.cl (rK ..)) fun hs=>?_
 refine ai fun I a w hs=>?_
 refine nn<|wp_ret ?_
 refine hs.rt ?_
 exact bM (by simp)
theorem As (l:List aK):
 Fn Tryz.prog 60 [cv l,cv l] (AV.bool true):=by
 refine Fn.intro 27 Tryz.func60 rfl Tryz.ntmps60 rfl (by kernel_rfl) (fun W I a hs=>?_)
 have hle:=hs.ew (t:=0) rfl
 refine cx fun I a w hs=>?_
 refine nn ?_
 refine hs.cd (fun ae=>?_) fun ae=>?_
 ·exfalso;simp at ae
  skip
 ·skip
  refine az fun I a w hs=>?_
  refine nn<|wp_block ?_
  refine St.lo (σ:=Nat) (run 2 4 (run 16 11 [])) ⟨fun k=>[(5,AV.int k)],fun k=>[],fun k=>k≤l.length⟩ (fun k=>l.length-k) 0 hs ?aN ?aO
  case aN=>exact Nat.zero_le _
  case aO=>
   rintro k I a w al hs
   have hk:k≤l.length:=al
   refine aJ fun I a w hs=>?_
   refine nn ?_
   refine hs.cd (fun ah=>?_) fun ah=>?_
   ·try simp only[B] at ah
    refine wp_skip<|aG<|wp_seq<|wp_block<|wp_seq<|hs.dk ?_
    refine mJ ?_
    refine .o (.c2 (LQ (ab l k))) ?_
    refine bz ?_
    refine .nil ?_
    intro I a w hs
    refine aG ?_
    refine hs.cd (fun aj=>?_) fun aj=>?_
    ·exfalso;simp at aj
     skip
    ·skip
     refine aB fun I a w hs=>?_
     refine nn ?_
     exact hs.ag (k+1) (ah)
   ·try simp only[B] at ah
    refine wp_exit<|aF<|aF<|aY ?_
    refine az fun I a w hs=>?_
    refine nn<|wp_ret ?_
    refine hs.rt ?_
    rfl
set_option maxHeartbeats 4000000 in
theorem Zn (m:aD):
 Fn Tryz.prog 59 [m.av,m.av] (AV.bool true):=by
 refine Fn.intro 101 Tryz.func59 rfl Tryz.ntmps59 rfl (by kernel_rfl) (fun W I a hs=>?_)
 refine BT fun I a w hs=>?_
 refine jR fun I a w hs=>?_
 refine hs.q .T (lf [_,_] [_,_] l3 rfl rfl .ag .ag) fun hs=>?_
 refine nz fun I a w hs=>?_
 refine hs.q .T (FE .ag .ag wa) fun hs=>?_
 refine yk fun I a w hs=>?_
 refine hs.q .T (.cl (rK ..)) fun hs=>?_
 refine cx fun I a w hs=>?_
 refine hs.q .T (.cl (As ..)) fun hs=>?_
 refine cx fun I a w hs=>?_
 refine hs.q .T (.cl (As ..)) fun hs=>?_
 refine cx fun I a w hs=>?_
 refine hs.q .T (.cl (rK ..)) fun hs=>?_
 refine ai fun I a w hs=>?_
 refine nn<|wp_ret ?_
 refine hs.rt ?_
 exact bM (by simp)
theorem Zo (l:List aD):
 Fn Tryz.prog 28 [bj l,bj l] (AV.bool true):=by
 refine Fn.intro 27 Tryz.func28 rfl Tryz.ntmps28 rfl (by kernel_rfl) (fun W I a hs=>?_)
 have hle:=hs.ew (t:=0) rfl
 refine cx fun I a w hs=>?_
 refine nn ?_
 refine hs.cd (fun ae=>?_) fun ae=>?_
 ·exfalso;simp at ae
  skip
 ·skip
  refine az fun I a w hs=>?_
  refine nn<|wp_block ?_
  refine St.lo (σ:=Nat) (run 2 4 (run 16 11 [])) ⟨fun k=>[(5,AV.int k)],fun k=>[],fun k=>k≤l.length⟩ (fun k=>l.length-k) 0 hs ?aN ?aO
  case aN=>exact Nat.zero_le _
  case aO=>
   rintro k I a w al hs
   have hk:k≤l.length:=al
   refine aJ fun I a w hs=>?_
   refine nn ?_
   refine hs.cd (fun ah=>?_) fun ah=>?_
   ·try simp only[B] at ah
    refine wp_skip<|aG<|wp_seq<|wp_block<|wp_seq<|hs.dk ?_
    refine mJ ?_
    refine .o (.c2 (Zn (ab l k))) ?_
    refine bz ?_
    refine .nil ?_
    intro I a w hs
    refine aG ?_
    refine hs.cd (fun aj=>?_) fun aj=>?_
    ·exfalso;simp at aj
     skip
    ·skip
     refine aB fun I a w hs=>?_
     refine nn ?_
     exact hs.ag (k+1) (ah)
   ·try simp only[B] at ah
    refine wp_exit<|aF<|aF<|aY ?_
    refine az fun I a w hs=>?_
    refine nn<|wp_ret ?_
    refine hs.rt ?_
    rfl
set_option maxHeartbeats 4000000 in
theorem Zp (s:Server) (hl:s.aR.length≤1048576):
 Fn Tryz.prog 29 [s.av,s.av] (AV.bool true):=by
 refine Fn.intro 77 Tryz.func29 rfl Tryz.ntmps29 rfl (by kernel_rfl) (fun W I a hs=>?_)
 refine nz fun I a w hs=>?_
 refine hs.q .F (A4 .ag .ag wa) fun hs=>?_
 refine yj fun I a w hs=>?_
 refine hs.q .F (.cl (As ..)) fun hs=>?_
 refine dq fun I a w hs=>?_
 refine hs.q .F (.cl (As ..)) fun hs=>?_
 refine dq fun I a w hs=>?_
 refine hs.q .F (.cl (rK ..)) fun hs=>?_
 refine dq fun I a w hs=>?_
 refine hs.q .F (.cl (rK ..)) fun hs=>?_
 refine ai fun I a w hs=>?_
 refine nn ?_
 refine hs.cd (fun ae=>?_) fun ae=>?_
 ·exfalso;simp at ae
  skip
 ·skip
  refine az fun I a w hs=>?_
  refine nn<|wp_block ?_
  refine St.lo (σ:=Nat) (run 2 4 (run 18 59 [])) ⟨fun k=>[(5,AV.int k)],fun k=>[],fun k=>k≤s.aR.length⟩ (fun k=>s.aR.length-k) 0 hs ?aN ?aO
  case aN=>exact Nat.zero_le _
  case aO=>
   rintro k I a w al hs
   have hk:k≤s.aR.length:=al
   refine aW fun I a w hs=>?_
   refine nn ?_
   refine hs.cd (fun ah=>?_) fun ah=>?_
   ·try simp only[B] at ah
    refine wp_skip<|aG<|wp_seq<|wp_block<|wp_seq<|hs.dk ?_
    refine mK ?_
    refine .o (r6 [_,_] [_,_] G5 rfl rfl .tt .tt)<|.nil ?_
    intro I a w hs
    refine aG ?_
    refine hs.cd (fun aj=>?_) fun aj=>?_
    ·exfalso;simp at aj
     skip
    ·skip
     refine aB fun I a w hs=>?_
     refine nn ?_
     exact hs.ag (k+1) (ah)
   ·try simp only[B] at ah
    refine wp_exit<|aF<|aF<|aY ?_
    refine az fun I a w hs=>?_
    refine nn<|wp_ret ?_
    refine hs.rt ?_
    rfl
set_option maxHeartbeats 4000000 in
theorem Zq (l:List Answer):
 Fn Tryz.prog 48 [oq l,oq l] (AV.bool true):=by
 refine Fn.intro 55 Tryz.func48 rfl Tryz.ntmps48 rfl (by kernel_rfl) (fun W I a hs=>?_)
 have hle:=hs.ew (t:=0) rfl
 refine cx fun I a w hs=>?_
 refine nn ?_
 refine hs.cd (fun ae=>?_) fun ae=>?_
 ·exfalso;simp at ae
  skip
 ·skip
  refine az fun I a w hs=>?_
  refine nn<|wp_block ?_
  refine St.lo (σ:=Nat) (run 2 4 (run 44 11 [])) ⟨fun k=>[(5,AV.int k)],fun k=>[],fun k=>k≤l.length⟩ (fun k=>l.length-k) 0 hs ?aN ?aO
  case aN=>exact Nat.zero_le _
  case aO=>
   rintro k I a w al hs
   have hk:k≤l.length:=al
   refine aJ fun I a w hs=>?_
   refine nn ?_
   refine hs.cd (fun ah=>?_) fun ah=>?_
   ·try simp only[B] at ah
    refine wp_skip<|aG<|wp_seq<|wp_block<|wp_seq<|hs.dk ?_
    refine lY ?_
    refine fP ?_
    refine .q .F (A4 .ag .ag wa) ?_
    refine yl ?_
    refine .q .F (.cl (LQ ..)) ?_
    refine cq ?_
    refine .nil ?_
    intro I a w hs
    refine aG ?_
    refine hs.cd (fun aj=>?_) fun aj=>?_
    ·exfalso;simp at aj
     skip
    ·skip
     refine aB fun I a w hs=>?_
     refine nn ?_
     exact hs.ag (k+1) (ah)
   ·try simp only[B] at ah
    refine wp_exit<|aF<|aF<|aY ?_
    refine az fun I a w hs=>?_
    refine nn<|wp_ret ?_
    refine hs.rt ?_
    rfl
set_option maxHeartbeats 4000000 in
theorem Zr (q:Call) (hl:q.keys.length≤1048576):
 Fn Tryz.prog 18 [q.av,q.av] (AV.bool true):=by
 refine Fn.intro 111 Tryz.func18 rfl Tryz.ntmps18 rfl (by kernel_rfl) (fun W I a hs=>?_)
 refine BT fun I a w hs=>?_
 refine Ow fun I a w hs=>?_
 refine hs.q .F (A4 .ag .ag wa) fun hs=>?_
 refine cx fun I a w hs=>?_
 refine hs.q .F (r6 [_,_] [_,_] l3 rfl rfl .ag .ag) fun hs=>?_
 refine yj fun I a w hs=>?_
 refine hs.q .F (.cl (rK ..)) fun hs=>?_
 refine dq fun I a w hs=>?_
 refine hs.q .F (.cl (rK ..)) fun hs=>?_
 refine dq fun I a w hs=>?_
 refine hs.q .F (.cl (Zq ..)) fun hs=>?_
 refine ai fun I a w hs=>?_
 refine nn ?_
 refine hs.cd (fun ae=>?_) fun ae=>?_
 ·exfalso;simp at ae
  skip
 ·skip
  refine az fun I a w hs=>?_
  refine nn<|wp_block ?_
  refine St.lo (σ:=Nat) (run 2 4 (run 18 93 [])) ⟨fun k=>[(5,AV.int k)],fun k=>[],fun k=>k≤q.keys.length⟩ (fun k=>q.keys.length-k) 0 hs ?aN ?aO
  case aN=>exact Nat.zero_le _
  case aO=>
   rintro k I a w al hs
   have hk:k≤q.keys.length:=al
   refine aW fun I a w hs=>?_
   refine nn ?_
   refine hs.cd (fun ah=>?_) fun ah=>?_
   ·try simp only[B] at ah
    refine az fun I a w hs=>?_
    refine aG ?_
    refine hs.cd (fun aj=>?_) fun aj=>?_
    ·exfalso;simp at aj
     skip
    ·skip
     refine aB fun I a w hs=>?_
     refine nn ?_
     exact hs.ag (k+1) (ah)
   ·try simp only[B] at ah
    refine wp_exit<|aF<|aF<|aY ?_
    refine az fun I a w hs=>?_
    refine nn<|wp_ret ?_
    refine hs.rt ?_
    rfl
set_option maxHeartbeats 4000000 in
theorem Zs (x:be) (h:uu x):
 Fn Tryz.prog 10 [x.av,x.av] (AV.bool true):=by
 refine Fn.intro 105 Tryz.func10 rfl Tryz.ntmps10 rfl (by kernel_rfl) (fun W I a hs=>?_)
 obtain⟨⟨h1,h2⟩,⟨h3,h4⟩,⟨h5,h6⟩,h7,h8⟩:=h
 refine BT fun I a w hs=>?_
 refine gi fun I a w hs=>?_
 refine hs.q .F (.cl (Zo ..)) fun hs=>?_
 refine ai fun I a w hs=>?_
 refine nn ?_
 refine hs.cd (fun ae=>?_) fun ae=>?_
 ·exfalso;simp at ae
  skip
 ·skip
  refine az fun I a w hs=>?_
  refine nn<|wp_block ?_
  refine St.lo (σ:=Nat) (run 2 4 (run 19 48 [])) ⟨fun k=>[(5,AV.int k)],fun k=>[],fun k=>k≤x.au.length⟩ (fun k=>x.au.length-k) 0 hs ?aN ?aO
  case aN=>exact Nat.zero_le _
  case aO=>
   rintro k I a w al hs
   have hk:k≤x.au.length:=al
   refine aW fun I a w hs=>?_
   refine nn ?_
   refine hs.cd (fun ah=>?_) fun ah=>?_
   ·try simp only[B] at ah
    refine wp_skip<|aG<|wp_seq<|wp_block<|wp_seq<|hs.dk ?_
    refine mK ?_
    refine .o (.c2 (Zp (ab x.au k) (h2 _ (bx ah)).1)) ?_
    refine bz ?_
    refine .nil ?_
    intro I a w hs
    refine aG ?_
    refine hs.cd (fun aj=>?_) fun aj=>?_
    ·exfalso;simp at aj
     skip
    ·skip
     refine aB fun I a w hs=>?_
     refine nn ?_
     exact hs.ag (k+1) (ah)
   ·try simp only[B] at ah
    refine wp_exit<|aF<|aF<|aY ?_
    refine az fun I a w hs=>?_
    refine nn<|wp_block ?_
    refine St.lo (σ:=Nat) (4::(6::(run 19 67 []))) ⟨fun k=>[(6,AV.int k)],fun k=>[],fun k=>k≤x.calls.length⟩ (fun k=>x.calls.length-k) 0 hs ?dT ?dU
    case dT=>exact Nat.zero_le _
    case dU=>
     rintro k I a w al hs
     have hk:k≤x.calls.length:=al
     refine aW fun I a w hs=>?_
     refine nn ?_
     refine hs.cd (fun aI=>?_) fun aI=>?_
     ·try simp only[B] at aI
      refine wp_skip<|aG<|wp_seq<|wp_block<|wp_seq<|hs.dk ?_
      refine mK ?_
      refine .o (.c2 (Zr (ab x.calls k) (h6 _ (bx aI)).1)) ?_
      refine bz ?_
      refine .nil ?_
      intro I a w hs
      refine aG ?_
      refine hs.cd (fun aL=>?_) fun aL=>?_
      ·exfalso;simp at aL
       skip
      ·skip
       refine aB fun I a w hs=>?_
       refine nn ?_
       exact hs.ag (k+1) (aI)
     ·try simp only[B] at aI
      refine wp_exit<|aF<|aF<|aY ?_
      refine az fun I a w hs=>?_
      refine nn<|wp_block ?_
      refine St.lo (σ:=Nat) (4::(7::(run 19 86 []))) ⟨fun k=>[(7,AV.int k)],fun k=>[],fun k=>k≤x.seen.length⟩ (fun k=>x.seen.length-k) 0 hs ?iq ?ir
      case iq=>exact Nat.zero_le _
      case ir=>
       rintro k I a w al hs
       have hk:k≤x.seen.length:=al
       refine aW fun I a w hs=>?_
       refine nn ?_
       refine hs.cd (fun bf=>?_) fun bf=>?_
       ·try simp only[B] at bf
        refine wp_skip<|aG<|wp_seq<|wp_block<|wp_seq<|hs.dk ?_
        refine mK ?_
        refine .o (.cl (rK (ab x.seen k))) ?_
        refine bz ?_
        refine .nil ?_
        intro I a w hs
        refine aG ?_
        refine hs.cd (fun aX=>?_) fun aX=>?_
        ·exfalso;simp at aX
         skip
        ·skip
         refine aB fun I a w hs=>?_
         refine nn ?_
         exact hs.ag (k+1) (bf)
       ·try simp only[B] at bf
        refine wp_exit<|aF<|aF<|aY ?_
        refine az fun I a w hs=>?_
        refine nn<|wp_ret ?_
        refine hs.rt ?_
        rfl
end Go.Proofs.YtoeioeimmfpefaaGreat
