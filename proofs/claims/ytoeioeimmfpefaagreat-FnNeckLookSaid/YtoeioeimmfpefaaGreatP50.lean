/- Part 50: rules of the proofs, contracts of functions, plain facts. -/
import Derived.ProofKit
import Derived.OpenShut
import Derived.Deep.DeepHandedRow
import Derived.Deep.Slices
import Derived.Lib.LaidTab
import Derived.LaidSub
import Derived.Carry
import Derived.Test.YtoeioeimmfpefaaGreatP48
import Derived.Test.YtoeioeimmfpefaaGreatP49
set_option linter.unusedVariables false
set_option linter.unusedSimpArgs false
set_option maxRecDepth 100000
set_option maxHeartbeats 4000000
namespace Go.Proofs.YtoeioeimmfpefaaGreat
open Go Go.RowKit
attribute [local irreducible] wpList Code.wp Ok
theorem rK (l:List ar):
 Fn Tryz.prog 30 [bl l,bl l] (AV.bool true):=by
 refine Fn.intro 26 Tryz.func30 rfl Tryz.ntmps30 rfl (by kernel_rfl) (fun W I a hs=>?_)
 have hle:=hs.ew (t:=0) rfl
 refine cx fun I a w hs=>?_
 refine nn ?_
 refine hs.cd (fun ae=>?_) fun ae=>?_
 ·exfalso;simp at ae
  skip
 ·skip
  refine az fun I a w hs=>?_
  refine nn<|wp_block ?_
  refine St.lo (σ:=Nat) (run 2 4 (run 15 11 [])) ⟨fun k=>[(5,AV.int k)],fun k=>[],fun k=>k≤l.length⟩ (fun k=>l.length-k) 0 hs ?aN ?aO
  case aN=>exact Nat.zero_le _
  case aO=>
   rintro k I a w al hs
   have hk:k≤l.length:=al
   refine aJ fun I a w hs=>?_
   refine nn ?_
   refine hs.cd (fun ah=>?_) fun ah=>?_
   ·try simp only[B] at ah
    refine wp_skip<|aG<|wp_seq<|wp_block<|wp_seq<|hs.dk ?_
    refine mJ ?_
    refine .o (r6 [_,_,_] [_,_,_] tU rfl rfl .tt .tt)<|.nil ?_
    intro I a w hs
    refine aG ?_
    refine hs.cd (fun aj=>?_) fun aj=>?_
    ·exfalso;simp at aj
     skip
    ·skip
     refine aB fun I a w hs=>?_
     refine nn ?_
     exact hs.ag (k+1) (ah)
   ·try simp only[B] at ah
    refine wp_exit<|aF<|aF<|aY ?_
    refine az fun I a w hs=>?_
    refine nn<|wp_ret ?_
    refine hs.rt ?_
    rfl
theorem LQ (v:aK):
 Fn Tryz.prog 92 [v.av,v.av] (AV.bool true):=by
 refine Fn.intro 45 Tryz.func92 rfl Tryz.ntmps92 rfl (by kernel_rfl) (fun W I a hs=>?_)
 refine nz fun I a w hs=>?_
 refine hs.q .T (lf [_,_] [_,_] l3 rfl rfl .ag .ag) fun hs=>?_
 refine Oy fun I a w hs=>?_
 refine hs.q .T (.cl (rK ..)) fun hs=>?_
 refine ai fun I a w hs=>?_
 refine nn<|wp_ret ?_
 refine hs.rt ?_
 exact bM (by simp)
theorem As (l:List aK):
 Fn Tryz.prog 60 [cv l,cv l] (AV.bool true):=by
 refine Fn.intro 27 Tryz.func60 rfl Tryz.ntmps60 rfl (by kernel_rfl) (fun W I a hs=>?_)
 have hle:=hs.ew (t:=0) rfl
 refine cx fun I a w hs=>?_
 refine nn ?_
 refine hs.cd (fun ae=>?_) fun ae=>?_
 ·exfalso;simp at ae
  skip
 ·skip
  refine az fun I a w hs=>?_
  refine nn<|wp_block ?_
  refine St.lo (σ:=Nat) (run 2 4 (run 16 11 [])) ⟨fun k=>[(5,AV.int k)],fun k=>[],fun k=>k≤l.length⟩ (fun k=>l.length-k) 0 hs ?aN ?aO
  case aN=>exact Nat.zero_le _
  case aO=>
   rintro k I a w al hs
   have hk:k≤l.length:=al
   refine aJ fun I a w hs=>?_
   refine nn ?_
   refine hs.cd (fun ah=>?_) fun ah=>?_
   ·try simp only[B] at ah
    refine wp_skip<|aG<|wp_seq<|wp_block<|wp_seq<|hs.dk ?_
    refine mJ ?_
    refine .o (.c2 (LQ (ab l k))) ?_
    refine bz ?_
    refine .nil ?_
    intro I a w hs
    refine aG ?_
    refine hs.cd (fun aj=>?_) fun aj=>?_
    ·exfalso;simp at aj
     skip
    ·skip
     refine aB fun I a w hs=>?_
     refine nn ?_
     exact hs.ag (k+1) (ah)
   ·try simp only[B] at ah
    refine wp_exit<|aF<|aF<|aY ?_
    refine az fun I a w hs=>?_
    refine nn<|wp_ret ?_
    refine hs.rt ?_
    rfl
set_option maxHeartbeats 4000000 in
theorem Zn (m:aD):
 Fn Tryz.prog 59 [m.av,m.av] (AV.bool true):=by
 refine Fn.intro 101 Tryz.func59 rfl Tryz.ntmps59 rfl (by kernel_rfl) (fun W I a hs=>?_)
 refine BT fun I a w hs=>?_
 refine jR fun I a w hs=>?_
 refine hs.q .T (lf [_,_] [_,_] l3 rfl rfl .ag .ag) fun hs=>?_
 refine nz fun I a w hs=>?_
 refine hs.q .T (FE .ag .ag wa) fun hs=>?_
 refine yk fun I a w hs=>?_
 refine hs.q .T (.cl (rK ..)) fun hs=>?_
 refine cx fun I a w hs=>?_
 refine hs.q .T (.cl (As ..)) fun hs=>?_
 refine cx fun I a w hs=>?_
 refine hs.q .T (.cl (As ..)) fun hs=>?_
 refine cx fun I a w hs=>?_
 refine hs.q .T (.cl (rK ..)) fun hs=>?_
 refine ai fun I a w hs=>?_
 refine nn<|wp_ret ?_
 refine hs.rt ?_
 exact bM (by simp)
theorem Zo (l:List aD):
 Fn Tryz.prog 28 [bj l,bj l] (AV.bool true):=by
 refine Fn.intro 27 Tryz.func28 rfl Tryz.ntmps28 rfl (by kernel_rfl) (fun W I a hs=>?_)
 have hle:=hs.ew (t:=0) rfl
 refine cx fun I a w hs=>?_
 refine nn ?_
 refine hs.cd (fun ae=>?_) fun ae=>?_
 ·exfalso;simp at ae
  skip
 ·skip
  refine az fun I a w hs=>?_
  refine nn<|wp_block ?_
  refine St.lo (σ:=Nat) (run 2 4 (run 16 11 [])) ⟨fun k=>[(5,AV.int k)],fun k=>[],fun k=>k≤l.length⟩ (fun k=>l.length-k) 0 hs ?aN ?aO
  case aN=>exact Nat.zero_le _
  case aO=>
   rintro k I a w al hs
   have hk:k≤l.length:=al
   refine aJ fun I a w hs=>?_
   refine nn ?_
   refine hs.cd (fun ah=>?_) fun ah=>?_
   ·try simp only[B] at ah
    refine wp_skip<|aG<|wp_seq<|wp_block<|wp_seq<|hs.dk ?_
    refine mJ ?_
    refine .o (.c2 (Zn (ab l k))) ?_
    refine bz ?_
    refine .nil ?_
    intro I a w hs
    refine aG ?_
    refine hs.cd (fun aj=>?_) fun aj=>?_
    ·exfalso;simp at aj
     skip
    ·skip
     refine aB fun I a w hs=>?_
     refine nn ?_
     exact hs.ag (k+1) (ah)
   ·try simp only[B] at ah
    refine wp_exit<|aF<|aF<|aY ?_
    refine az fun I a w hs=>?_
    refine nn<|wp_ret ?_
    refine hs.rt ?_
    rfl
set_option maxHeartbeats 4000000 in
theorem Zp (s:Server) (hl:s.aR.length≤1048576):
 Fn Tryz.prog 29 [s.av,s.av] (AV.bool true):=by
 refine Fn.intro 77 Tryz.func29 rfl Tryz.ntmps29 rfl (by kernel_rfl) (fun W I a hs=>?_)
 refine nz fun I a w hs=>?_
 refine hs.q .F (A4 .ag .ag wa) fun hs=>?_
 refine yj fun I a w hs=>?_
 refine hs.q .F (.cl (As ..)) fun hs=>?_
 refine dq fun I a w hs=>?_
 refine hs.q .F (.cl (As ..)) fun hs=>?_
 refine dq fun I a w hs=>?_
 refine hs.q .F (.cl (rK ..)) fun hs=>?_
 refine dq fun I a w hs=>?_
 refine hs.q .F (.cl (rK ..)) fun hs=>?_
 refine ai fun I a w hs=>?_
 refine nn ?_
 refine hs.cd (fun ae=>?_) fun ae=>?_
 ·exfalso;simp at ae
  skip
 ·skip
  refine az fun I a w hs=>?_
  refine nn<|wp_block ?_
  refine St.lo (σ:=Nat) (run 2 4 (run 18 59 [])) ⟨fun k=>[(5,AV.int k)],fun k=>[],fun k=>k≤s.aR.length⟩ (fun k=>s.aR.length-k) 0 hs ?aN ?aO
  case aN=>exact Nat.zero_le _
  case aO=>
   rintro k I a w al hs
   have hk:k≤s.aR.length:=al
   refine aW fun I a w hs=>?_
   refine nn ?_
   refine hs.cd (fun ah=>?_) fun ah=>?_
   ·try simp only[B] at ah
    refine wp_skip<|aG<|wp_seq<|wp_block<|wp_seq<|hs.dk ?_
    refine mK ?_
    refine .o (r6 [_,_] [_,_] G5 rfl rfl .tt .tt)<|.nil ?_
    intro I a w hs
    refine aG ?_
    refine hs.cd (fun aj=>?_) fun aj=>?_
    ·exfalso;simp at aj
     skip
    ·skip
     refine aB fun I a w hs=>?_
     refine nn ?_
     exact hs.ag (k+1) (ah)
   ·try simp only[B] at ah
    refine wp_exit<|aF<|aF<|aY ?_
    refine az fun I a w hs=>?_
    refine nn<|wp_ret ?_
    refine hs.rt ?_
    rfl
set_option maxHeartbeats 4000000 in
theorem Zq (l:List Answer):
 Fn Tryz.prog 48 [oq l,oq l] (AV.bool true):=by
 refine Fn.intro 55 Tryz.func48 rfl Tryz.ntmps48 rfl (by kernel_rfl) (fun W I a hs=>?_)
 have hle:=hs.ew (t:=0) rfl
 refine cx fun I a w hs=>?_
 refine nn ?_
 refine hs.cd (fun ae=>?_) fun ae=>?_
 ·exfalso;simp at ae
  skip
 ·skip
  refine az fun I a w hs=>?_
  refine nn<|wp_block ?_
  refine St.lo (σ:=Nat) (run 2 4 (run 44 11 [])) ⟨fun k=>[(5,AV.int k)],fun k=>[],fun k=>k≤l.length⟩ (fun k=>l.length-k) 0 hs ?aN ?aO
  case aN=>exact Nat.zero_le _
  case aO=>
   rintro k I a w al hs
   have hk:k≤l.length:=al
   refine aJ fun I a w hs=>?_
   refine nn ?_
   refine hs.cd (fun ah=>?_) fun ah=>?_
   ·try simp only[B] at ah
    refine wp_skip<|aG<|wp_seq<|wp_block<|wp_seq<|hs.dk ?_
    refine lY ?_
    refine fP ?_
    refine .q .F (A4 .ag .ag wa) ?_
    refine yl ?_
    refine .q .F (.cl (LQ ..)) ?_
    refine cq ?_
    refine .nil ?_
    intro I a w hs
    refine aG ?_
    refine hs.cd (fun aj=>?_) fun aj=>?_
    ·exfalso;simp at aj
     skip
    ·skip
     refine aB fun I a w hs=>?_
     refine nn ?_
     exact hs.ag (k+1) (ah)
   ·try simp only[B] at ah
    refine wp_exit<|aF<|aF<|aY ?_
    refine az fun I a w hs=>?_
    refine nn<|wp_ret ?_
    refine hs.rt ?_
    rfl
set_option maxHeartbeats 4000000 in
theorem Zr (q:Call) (hl:q.keys.length≤1048576):
 Fn Tryz.prog 18 [q.av,q.av] (AV.bool true):=by
 refine Fn.intro 111 Tryz.func18 rfl Tryz.ntmps18 rfl (by kernel_rfl) (fun W I a hs=>?_)
 refine BT fun I a w hs=>?_
 refine Ow fun I a w hs=>?_
 refine hs.q .F (A4 .ag .ag wa) fun hs=>?_
 refine cx fun I a w hs=>?_
 refine hs.q .F (r6 [_,_] [_,_] l3 rfl rfl .ag .ag) fun hs=>?_
 refine yj fun I a w hs=>?_
 refine hs.q .F (.cl (rK ..)) fun hs=>?_
 refine dq fun I a w hs=>?_
 refine hs.q .F (.cl (rK ..)) fun hs=>?_
 refine dq fun I a w hs=>?_
 refine hs.q .F (.cl (Zq ..)) fun hs=>?_
 refine ai fun I a w hs=>?_
 refine nn ?_
 refine hs.cd (fun ae=>?_) fun ae=>?_
 ·exfalso;simp at ae
  skip
 ·skip
  refine az fun I a w hs=>?_
  refine nn<|wp_block ?_
  refine St.lo (σ:=Nat) (run 2 4 (run 18 93 [])) ⟨fun k=>[(5,AV.int k)],fun k=>[],fun k=>k≤q.keys.length⟩ (fun k=>q.keys.length-k) 0 hs ?aN ?aO
  case aN=>exact Nat.zero_le _
  case aO=>
   rintro k I a w al hs
   have hk:k≤q.keys.length:=al
   refine aW fun I a w hs=>?_
   refine nn ?_
   refine hs.cd (fun ah=>?_) fun ah=>?_
   ·try simp only[B] at ah
    refine az fun I a w hs=>?_
    refine aG ?_
    refine hs.cd (fun aj=>?_) fun aj=>?_
    ·exfalso;simp at aj
     skip
    ·skip
     refine aB fun I a w hs=>?_
     refine nn ?_
     exact hs.ag (k+1) (ah)
   ·try simp only[B] at ah
    refine wp_exit<|aF<|aF<|aY ?_
    refine az fun I a w hs=>?_
    refine nn<|wp_ret ?_
    refine hs.rt ?_
    rfl
set_option maxHeartbeats 4000000 in
theorem Zs (x:be) (h:uu x):
 Fn Tryz.prog 10 [x.av,x.av] (AV.bool true):=by
 refine Fn.intro 105 Tryz.func10 rfl Tryz.ntmps10 rfl (by kernel_rfl) (fun W I a hs=>?_)
 obtain⟨⟨h1,h2⟩,⟨h3,h4⟩,⟨h5,h6⟩,h7,h8⟩:=h
 refine BT fun I a w hs=>?_
 refine gi fun I a w hs=>?_
 refine hs.q .F (.cl (Zo ..)) fun hs=>?_
 refine ai fun I a w hs=>?_
 refine nn ?_
 refine hs.cd (fun ae=>?_) fun ae=>?_
 ·exfalso;simp at ae
  skip
 ·skip
  refine az fun I a w hs=>?_
  refine nn<|wp_block ?_
  refine St.lo (σ:=Nat) (run 2 4 (run 19 48 [])) ⟨fun k=>[(5,AV.int k)],fun k=>[],fun k=>k≤x.au.length⟩ (fun k=>x.au.length-k) 0 hs ?aN ?aO
  case aN=>exact Nat.zero_le _
  case aO=>
   rintro k I a w al hs
   have hk:k≤x.au.length:=al
   refine aW fun I a w hs=>?_
   refine nn ?_
   refine hs.cd (fun ah=>?_) fun ah=>?_
   ·try simp only[B] at ah
    refine wp_skip<|aG<|wp_seq<|wp_block<|wp_seq<|hs.dk ?_
    refine mK ?_
    refine .o (.c2 (Zp (ab x.au k) (h2 _ (bx ah)).1)) ?_
    refine bz ?_
    refine .nil ?_
    intro I a w hs
    refine aG ?_
    refine hs.cd (fun aj=>?_) fun aj=>?_
    ·exfalso;simp at aj
     skip
    ·skip
     refine aB fun I a w hs=>?_
     refine nn ?_
     exact hs.ag (k+1) (ah)
   ·try simp only[B] at ah
    refine wp_exit<|aF<|aF<|aY ?_
    refine az fun I a w hs=>?_
    refine nn<|wp_block ?_
    refine St.lo (σ:=Nat) (4::(6::(run 19 67 []))) ⟨fun k=>[(6,AV.int k)],fun k=>[],fun k=>k≤x.calls.length⟩ (fun k=>x.calls.length-k) 0 hs ?dT ?dU
    case dT=>exact Nat.zero_le _
    case dU=>
     rintro k I a w al hs
     have hk:k≤x.calls.length:=al
     refine aW fun I a w hs=>?_
     refine nn ?_
     refine hs.cd (fun aI=>?_) fun aI=>?_
     ·try simp only[B] at aI
      refine wp_skip<|aG<|wp_seq<|wp_block<|wp_seq<|hs.dk ?_
      refine mK ?_
      refine .o (.c2 (Zr (ab x.calls k) (h6 _ (bx aI)).1)) ?_
      refine bz ?_
      refine .nil ?_
      intro I a w hs
      refine aG ?_
      refine hs.cd (fun aL=>?_) fun aL=>?_
      ·exfalso;simp at aL
       skip
      ·skip
       refine aB fun I a w hs=>?_
       refine nn ?_
       exact hs.ag (k+1) (aI)
     ·try simp only[B] at aI
      refine wp_exit<|aF<|aF<|aY ?_
      refine az fun I a w hs=>?_
      refine nn<|wp_block ?_
      refine St.lo (σ:=Nat) (4::(7::(run 19 86 []))) ⟨fun k=>[(7,AV.int k)],fun k=>[],fun k=>k≤x.seen.length⟩ (fun k=>x.seen.length-k) 0 hs ?iq ?ir
      case iq=>exact Nat.zero_le _
      case ir=>
       rintro k I a w al hs
       have hk:k≤x.seen.length:=al
       refine aW fun I a w hs=>?_
       refine nn ?_
       refine hs.cd (fun bf=>?_) fun bf=>?_
       ·try simp only[B] at bf
        refine wp_skip<|aG<|wp_seq<|wp_block<|wp_seq<|hs.dk ?_
        refine mK ?_
        refine .o (.cl (rK (ab x.seen k))) ?_
        refine bz ?_
        refine .nil ?_
        intro I a w hs
        refine aG ?_
        refine hs.cd (fun aX=>?_) fun aX=>?_
        ·exfalso;simp at aX
         skip
        ·skip
         refine aB fun I a w hs=>?_
         refine nn ?_
         exact hs.ag (k+1) (bf)
       ·try simp only[B] at bf
        refine wp_exit<|aF<|aF<|aY ?_
        refine az fun I a w hs=>?_
        refine nn<|wp_ret ?_
        refine hs.rt ?_
        rfl
end Go.Proofs.YtoeioeimmfpefaaGreat
set_option linter.unusedVariables false
set_option linter.unusedSimpArgs false
namespace Go.Proofs.YtoeioeimmfpefaaGreat
open Go Go.RowKit Go.ChangeShapes Go.WideShapes Go.ChangeAt
section
variable {H:Type} {eO:TypeId×Value→H} {P:Program}
def oc (W:World):Im:=fun b=>match W.heap[b]? with
 |some (.cells cs _ _)=>some cs
 |_=>none
theorem MD (W:World):dr W (oc W):=fun b cs e=>by
 unfold oc at e
 split at e
 ·rename_i g0 T fr h;cases e;exact⟨T,fr,h⟩
 ·cases e
theorem Zt {W:World} {b:Nat} {cs:Array Value} {T:TypeId} {fr:Nat×Nat} (h:W.heap[b]?=some (.cells cs T fr)):oc W b=some cs:=by unfold oc;rw[h]
theorem LR {W:World} {a:Addr} {v:Value} (h:W.cell? a=some v):a.spot=none∧∃cs T fr,W.heap[a.block]?=some (.cells cs T fr)∧cs[a.off]?=some v:=by
 have hs:=World.cell?_spot h
 refine⟨hs,?_⟩
 unfold World.cell? at h
 rw[hs] at h
 split at h
 ·rename_i cs T fr he;exact⟨cs,T,fr,he,by simpa using h⟩
 ·simp at h
theorem Zu {W:World} {base:Nat} {a:Addr} {n:Nat} {g0:List Value} {cs:Array Value} {T:TypeId} {fr:Nat×Nat} (h:W.cells? base a n=some g0) (ha:W.heap[a.block]?=some (.cells cs T fr)):(cs.toList.drop a.off).take n=g0:=by
 obtain⟨_,hl,hc⟩:=World.cells?_some h
 apply List.ext_getElem?
 intro i
 rw[List.getElem?_take]
 split
 ·rename_i hi
  rw[←hc i hi,List.getElem?_drop]
  obtain⟨v,hv⟩:∃v,g0[i]?=some v:=⟨g0[i]'(by omega),by simp[hl,hi]⟩
  obtain⟨_,Ql,T2,fr2,h2,h3⟩:=LR ((hc i hi).trans hv)
  have hb:(a.add i).block=a.block:=by unfold Addr.add;split<;>rfl
  have ho:(a.add i).off=a.off+i:=by unfold Addr.add;split<;>simp_all
  rw[hb,ha] at h2
  cases h2
  rw[hc i hi,hv,←ho]
  simpa using h3
 ·rename_i hi
  rw[List.getElem?_eq_none (by omega)]
theorem ME {f:Func} {s:ChangeSpec} {apart fresh handsOn again:Bool} {W W':World} {args:Array Value} {v:Value} {ds gs:List (DataW H)} {before pa pv:List MemPlace}
 (hW:DataW.Whole eO P f.params.toList s.vars apart W args.toList ds gs before)
 (LS:∀(b:Nat) (sp:Nat→Bool) (hd:Bool),DataW.TrodAll eO P W' b sp hd f.resultTypes.toList (v.resultList f.resultTypes.size) (s.fn H (ds++gs)).results [])
 (ic:∀sp:Nat→Bool,(∀p∈before,sp p.block=true)→DataW.TrodAll eO P W' 0 sp true f.params.toList args.toList (s.fn H (ds++gs)).args pa)
 (LU:∀sp:Nat→Bool,(∀p∈before,sp p.block=true)→DataW.TrodVars eO P W' sp s.vars (s.fn H (ds++gs)).vars pv)
 (Au:before=pa++pv) (hb:Below W.heap.size W W')
 (al:∀(j:Nat) (t:TypeId) (r:Value),f.resultTypes[j]?=some t→(v.resultList f.resultTypes.size)[j]?=some r→Value.okWide P W' .any 0 t r):
 s.post eO P f apart fresh handsOn again W args v W':=by
 have bJ:=fun p hp=>hW.lt p hp
 have hold:∀p∈before,(fun b=>decide (b<W.heap.size)) p.block=true:=fun p hp=>by simpa using bJ p hp
 refine⟨ds,gs,before,[],pa,pv,hW,LS _ _ _,ic _ hold,LU _ hold,World.keptBut_mono (fun p hp=>⟨hp,?_⟩) (hb.frame (·∈before)),fun _=>?_⟩
 ·rw[Au,List.mem_append] at hp
  exact Or.inr hp
 ·obtain⟨_,_,_,_,_,hz,hn⟩:=hW
  refine⟨al,_,_,([]++pa)++pv,⟨[]++pa,pv,ChangeShapes.trodAll_append (ic _ (fun _ _=>rfl)) (LS _ _ _),LU _ (fun _ _=>rfl),rfl,?_,?_⟩,?_⟩
  ·intro b off hp
   have BX:MemPlace.cell b off∈before:=by rw[Au];simpa using hp
   rw[hb.frozen (p:=⟨b,off,none⟩) (bJ _ BX)]
   exact hz b off BX
  ·intro ha
   have:=hn ha
   rw[Au] at this
   simpa using this
  ·intro p hp _
   rw[Au]
   simpa using hp
end
section
variable {H:Type} {eO:TypeId×Value→H} {P:Program} {W:World}
def xv {α:Type} (eO:TypeId×Value→H) (P:Program) (W:World) (cf:α→List AV) (Fit:α→Prop) (t:TypeId):Prop:=
 ∀n cs x,DataW.trod eO P W 0 (fun _=>true) true n t cs=some x→∃y:α,bD (oc W) (cf y) cs∧Fit y
theorem Zv {α:Type} [Inhabited α] {cf:α→List AV} {Fit:α→Prop} {sz:Nat} {t e:TypeId} (hu:P.underlying t=some (.slice e)) (hc:P.cellsOf e=sz) (h0:0<sz) (cr:∀y,(cf y).length=sz) (ho:xv eO P W cf Fit e):
 xv eO P W (fun l:List α=>[AV.rows sz (l.map cf)]) (fun l=>∀y∈l,Fit y) t:=fun n cs x h=>by
 rcases Deep.open_slice hu h with⟨rfl,_⟩|⟨a,len,cap,m,n,D,Pl,rfl,_,Zw,AQ,hm,_,LV⟩
 ·exact⟨[],⟨⟨eb _ _,rfl⟩,trivial⟩,by simp⟩
 ·have hle:len≤m:=by rw[hm];split<;>omega
  rw[hc] at LV
  have ch:∀i:Nat,∃y:α,i<len→(∃g0,W.cells? 0 (a.add (i*sz)) sz=some g0∧bD (oc W) (cf y) g0)∧Fit y:=fun i=>by
   by_cases hi:i<len
   ·obtain⟨g0,h1,h2⟩:=LV i (by omega)
    obtain⟨y,hy,hf⟩:=ho _ _ _ h2
    exact⟨y,fun _=>⟨⟨g0,h1,hy⟩,hf⟩⟩
   ·exact⟨default,fun h=>absurd h hi⟩
  let g:Nat→α:=fun i=>(ch i).choose
  have hg:∀i,i<len→(∃g0,W.cells? 0 (a.add (i*sz)) sz=some g0∧bD (oc W) (cf (g i)) g0)∧Fit (g i):=fun i=>(ch i).choose_spec
  have ix:∀r∈((List.range len).map g).map cf,r.length=sz:=fun r hr=>by
   simp only[List.map_map,List.mem_map] at hr
   obtain⟨i,_,rfl⟩:=hr;exact cr _
  refine⟨(List.range len).map g,⟨⟨⟨some a,cap,by simp,by simpa using Zw,AQ,ix,?_,(fun h=>by cases h)⟩,rfl⟩,trivial⟩,?_⟩
  ·rcases Nat.eq_zero_or_pos len with hz|k4
   ·left;rw[hz];rfl
   ·right
    obtain⟨⟨Zx,BO,hh0⟩,_⟩:=hg 0 k4
    obtain⟨_,nj,ky⟩:=World.cells?_some BO
    have LW:=ky 0 (by omega)
    obtain⟨u,Zy⟩:∃u,Zx[0]?=some u:=⟨_,List.getElem?_eq_getElem (by omega)⟩
    rw[Zy] at LW
    obtain⟨LX,cs,T,fr,hb,_⟩:=LR LW
    have Zz:((a.add (0*sz)).add 0)=a:=by simp[Addr.add]
    rw[Zz] at hb LX
    refine⟨a,rfl,LX,cs,Zt hb,?_⟩
    have key:∀k,k≤len→bD (oc W) (((List.range k).map g).map cf).flatten ((cs.toList.drop a.off).take (k*sz)):=by
     intro k
     induction k with
     |zero=>intro _;simp[bD]
     |succ k ih=>
      intro hk
      have h1:=ih (by omega)
      obtain⟨⟨g0,ZA,ZB⟩,_⟩:=hg k (by omega)
      have ZC:(a.add (k*sz)).block=a.block:=by unfold Addr.add;split<;>rfl
      have ZD:(a.add (k*sz)).off=a.off+k*sz:=by unfold Addr.add;split<;>simp_all
      have h2:=Zu ZA (by rw[ZC];exact hb)
      rw[ZD] at h2
      rw[List.range_succ,List.map_append,List.map_append,List.flatten_append,Nat.succ_mul]
      have e3:(cs.toList.drop a.off).take (k*sz+sz)=(cs.toList.drop a.off).take (k*sz)++g0:=by
       rw[←h2,←List.drop_drop,List.take_add]
      rw[e3]
      refine h1.append ?_
      simpa using ZB
    have:=key len (Nat.le_refl _)
    have hlen:(((List.range len).map g).map cf).flatten.length=len*sz:=by
     rw[fj ix]
     simp
    rwa[hlen]
  ·intro y hy
   obtain⟨i,hi,rfl⟩:=List.mem_map.1 hy
   exact(hg i (by simpa using hi)).2
end
section
variable {H:Type} {eO:TypeId×Value→H} {P:Program} {W:World}
theorem ZE {v:Value} (h:∀cs,v≠.agg cs):v.cells.toList=[v]:=by
 cases v<;>first|rfl|exact absurd rfl (h _)
theorem Mz {α:Type} {cf:α→AV} {Fit:α→Prop} {t base:Nat} {v:Value} {d:DataW H} {ps:List MemPlace} (ho:xv eO P W (fun y=>[cf y]) Fit t) (bn:∀cs,v≠.agg cs) (h:DataW.Trod eO P W 0 (fun _=>true) true t v d ps):
 ∃y,(cf y).h (oc W) v∧Fit y:=by
 obtain⟨fuel,h⟩:=h
 rw[ZE bn] at h
 obtain⟨y,hy,hf⟩:=ho _ _ _ h
 exact⟨y,hy.1.1,hf⟩
theorem MB {t base e:Nat} {v:Value} (hu:P.underlying t=some (.slice e)) (al:Value.okWide P W .any base t v):∀cs,v≠.agg cs:=by
 rintro cs rfl
 simp[Value.okWide,hu,Cell.okWide,Cell.ok] at al
end
def ct.Deep (s:ct):Prop:=c8 s.time∧c8 s.site
def ar.Deep (d:ar):Prop:=c8 d.key∧d.aA.Deep
def aK.Deep (v:aK):Prop:=c8 v.key∧v.aA.Deep∧c8 v.val∧c8 v.aC∧c8 v.call∧∀d∈v.aS,d.Deep
def aD.Deep (m:aD):Prop:=c8 m.kind∧c8 m.bc∧c8 m.to∧c8 m.call∧c8 m.key∧m.aA.Deep∧c8 m.val∧True∧(∀d∈m.aS,d.Deep)∧c8 m.slot∧c8 m.bO∧(∀v∈m.aq,v.Deep)∧(∀v∈m.waits,v.Deep)∧∀d∈m.aH,d.Deep
def dt.Deep (s:dt):Prop:=c8 s.bO∧c8 s.er
def Server.Deep (s:Server):Prop:=c8 s.site∧True∧(∀x∈s.aR,x.Deep)∧(∀v∈s.aq,v.Deep)∧(∀v∈s.waits,v.Deep)∧(∀d∈s.aH,d.Deep)∧∀d∈s.bq,d.Deep
def Answer.Deep (a:Answer):Prop:=c8 a.key∧True∧a.bG.Deep
def Call.Deep (k:Call):Prop:=c8 k.aC∧c8 k.num∧c8 k.kind∧(∀n∈k.keys,c8 n)∧c8 k.val∧(∀d∈k.ctx,d.Deep)∧c8 k.bm∧c8 k.end_∧True∧k.aA.Deep∧(∀a∈k.ax,a.Deep)∧∀d∈k.aM,d.Deep
def be.Deep (w:be):Prop:=c8 w.time∧(∀s∈w.au,s.Deep)∧(∀m∈w.ao,m.Deep)∧(∀k∈w.calls,k.Deep)∧∀l∈w.seen,∀d∈l,d.Deep
def Ev.Deep (e:Ev):Prop:=c8 e.kind∧c8 e.at_∧c8 e.aC∧c8 e.word∧c8 e.fN∧c8 e.slot∧c8 e.call∧c8 e.a∧c8 e.b∧c8 e.c∧c8 e.val
end Go.Proofs.YtoeioeimmfpefaaGreat
set_option linter.unusedVariables false
set_option linter.unusedSimpArgs false
set_option maxRecDepth 100000
set_option maxHeartbeats 4000000
namespace Go.Proofs.YtoeioeimmfpefaaGreat
open Go Go.RowKit
attribute [local irreducible] wpList Code.wp Ok
section
variable {P:Program} {H:Type} {eO:TypeId×Value→H} {W:World}
theorem ZF {t:TypeId} (ht:P.underlying t=some (.int .u8)):xv eO P W Eb (fun _=>True) t:=fun n cs x h=>by
 obtain⟨k,rfl,_,hw⟩:=DataW.trod_int ht h
 simp only[Lit.wf,Bool.and_eq_true,decide_eq_true_eq] at hw
 have h0:0≤k:=hw.1
 have h1:k≤255:=hw.2
 refine⟨UInt8.ofNat k.toNat,⟨⟨?_,rfl⟩,trivial⟩,trivial⟩
 show Value.int .u8 k=Value.int .u8 ((UInt8.ofNat k.toNat).toNat:Int)
 rw[UInt8.toNat_ofNat']
 congr 1
 omega
end
theorem MA {H:Type} {eO:TypeId×Value→H} {W:World}:xv eO Tryz.prog W (fun l:List UInt8=>[bF l]) (fun l=>∀y∈l,True) 22:=
 Zv (t:=22) (sz:=1) (cf:=Eb) (by kernel_rfl) (by kernel_rfl) (by decide) (fun _=>rfl) (ZF (t:=5) (by kernel_rfl))
theorem ZG (l:List Ev):uu (gq l):=(nV.1 (EP l)).1.small
theorem ZH (l:List Ev):(gq l).au.length=4:=(nV.1 (EP l)).1.au
theorem ZI (l:List Ev):(gq l).seen.length=2:=(nV.1 (EP l)).1.seen
def fM (e:Ev):Ev:=if e.kind=1 then{e with call:=2} else e
def jv (l:List Ev) (k:Nat):List Ev:=(l.take k).map fM++l.drop k
theorem LY {l:List Ev} {k:Nat} (h:k<l.length):jv l k=(l.take k).map fM++ab l k::l.drop (k+1)∧ab (jv l k) k=ab l k∧((l.take k).map fM).length=k:=by
 have hA:((l.take k).map fM).length=k:=by rw[List.length_map,List.length_take];omega
 have e:jv l k=(l.take k).map fM++ab l k::l.drop (k+1):=by unfold jv;rw[jw h]
 refine⟨e,?_,hA⟩
 rw[e]
 have:((l.take k).map fM++ab l k::l.drop (k+1))[k]?=some (ab l k):=by rw[List.getElem?_append_right (by omega),hA];simp
 show List.getD _ k default=ab l k
 rw[List.getD_eq_getElem?_getD,this];rfl
theorem ZJ {l:List Ev} {k:Nat} (h:k≤l.length):(jv l k).length=l.length:=by unfold jv;simp;omega
theorem ZK {l:List Ev} {k:Nat} (h:k<l.length) (hk:(ab (jv l k) k).kind=1):(jv l k).set k {ab (jv l k) k with call:=2}=jv l (k+1):=by
 obtain⟨e1,e2,hA⟩:=LY h
 rw[e2] at hk⊢
 rw[e1,List.set_append_right _ _ (by omega),hA,Nat.sub_self,List.set_cons_zero]
 unfold jv
 rw[dL h,List.map_append,List.append_assoc]
 show _=_++(fM (ab l k)::_)
 rw[show fM (ab l k)={ab l k with call:=2} from if_pos hk];rfl
theorem ZL {l:List Ev} {k:Nat} (h:k<l.length) (hk:¬(ab (jv l k) k).kind=1):jv l k=jv l (k+1):=by
 obtain⟨e1,e2,hA⟩:=LY h
 rw[e2] at hk
 rw[e1]
 unfold jv
 rw[dL h,List.map_append,List.append_assoc]
 show _=_++(fM (ab l k)::_)
 rw[show fM (ab l k)=ab l k from if_neg hk];rfl
theorem ZM {l:List Ev} {k:Nat} (h:l.length≤k):jv l k=l.map fM:=by
 unfold jv;rw[List.take_of_length_le h,List.drop_eq_nil_of_le h,List.append_nil]
theorem ZN (l:List Ev):Idle (gq (l.map fM)):=Zl fun e he hk=>by
 obtain⟨x,_,rfl⟩:=List.mem_map.1 he
 unfold fM at hk⊢
 split
 ·show(2:Int)≠1;decide
 ·rename_i hn;rw[if_neg hn] at hk;exact absurd hk hn
set_option maxHeartbeats 4000000 in
theorem MC (code:List UInt8):
 Fn Tryz.prog 4 [bF code] (AV.bool true):=by
 refine Fn.intro 84 Tryz.func4 rfl Tryz.ntmps4 rfl (by kernel_rfl) (fun W I a hs=>?_)
 have hle:=hs.ew (t:=0) rfl
 refine aJ fun I a w hs=>?_
 refine nn ?_
 refine hs.cd (fun ae=>?_) fun ae=>?_
 ·simp only[B] at ae
  refine az fun I a w hs=>?_
  refine nn<|wp_ret<|aE ?_
  refine hs.rt ?_
  rfl
 ·simp only[B] at ae
  refine az fun I a w hs=>?_
  refine hs.cW [] (Y7 code (by omega)) (aw .r aP) rfl (by decide) rfl fun l I a w aeB hs=>?_
  refine hs.s fun hs=>nn<|sr ?_
  refine hs.cT rfl sB oz (by decide) fun oH I a w hs=>?_
  refine hs.m fun hs=>?_
  refine hs.append 0 rfl sB oz rfl .tt .r rfl (by simp;omega) fun wJ a w hs=>?_
  refine ai fun I a w hs=>?_
  refine nn<|wp_block ?_
  refine St.lo (σ:=Nat×List Ev) (5::(run 16 17 [])) ⟨fun⟨k,m⟩=>[(5,AV.int k)],fun⟨k,m⟩=>[Own.row wJ 39 11 (m.map Ev.cells)],fun⟨k,m⟩=>k≤l.length∧m=jv l k⟩ (fun⟨k,m⟩=>l.length-k) (0,l) hs ?aN ?aO
  case aN=>exact⟨Nat.zero_le _,by simp[jv]⟩
  case aO=>
   rintro⟨k,m⟩ I a w al hs
   obtain⟨hk,hm⟩:=al
   have xm:m.length=l.length:=by rw[hm];exact ZJ hk
   dsimp only at hs
   refine ai fun I a w hs=>?_
   refine hs.o (ni 0 sB .tt rfl) fun hs=>hs.o .lss fun hs=>nn ?_
   refine hs.cd (fun ah=>?_) fun ah=>?_
   ·simp only[B] at ah;rw[List.length_map] at ah
    refine ai fun I a w hs=>?_
    refine hs.o (tj 0 sB oz .tt .tt rfl (fun _=>by rw[List.length_map];omega)) fun hs=>?_
    refine hs.o .fv fun hs=>?_
    refine hs.o (DV 0 fT .tt rfl (fun _=>by exact ek (by omega)) rfl rfl rfl) fun hs=>?_
    refine hs.o .si fun hs=>nn ?_
    refine hs.cd (fun aj=>?_) fun aj=>?_
    ·simp only[B] at aj;rw[Int.toNat_natCast] at aj
     obtain⟨bR,cR,rfl⟩:=hs.g8 0 rfl (by rw[List.length_map];omega)
     refine ai fun I a w hs=>?_
     refine hs.o (tj 0 sB oz .tt .tt rfl (fun _=>by rw[List.length_map];omega)) fun hs=>?_
     refine hs.o .fv fun hs=>?_
     refine hs.tM (j:=6) 0 fT .tt .c (by first|exact iY rfl|exact jj|exact jk|exact jl) rfl (by exact ek (by omega)) rfl rfl fun a w hs=>?_
     refine wpList_nil ?_
     have e9:∀y,y=Ev.cells {ab m k with call:=2}→(List.map Ev.cells m).set k y=List.map Ev.cells (m.set k {ab m k with call:=2}):=fun y hy=>by rw[hy,List.map_set]
     rw[Int.toNat_natCast,e9] at hs
     rotate_left
     ·rfl
     refine aB fun I a w hs=>?_
     refine nn ?_
     exact hs.ag (k+1,m.set k {ab m k with call:=2}) (⟨by show k+1≤_;omega,by subst hm;exact ZK (by omega) aj⟩)
    ·simp only[B] at aj;rw[Int.toNat_natCast] at aj
     refine aB fun I a w hs=>?_
     refine nn ?_
     exact hs.ag (k+1,m) (⟨by show k+1≤_;omega,by subst hm;exact ZL (by omega) aj⟩)
   ·simp only[B] at ah;rw[List.length_map] at ah
    refine wp_exit<|aF<|aF<|aY<|aG<|wp_seq ?_
    obtain rfl:m=(l.map fM):=by rw[hm,ZM (by omega)]
    obtain⟨I,hs⟩:=hs.fr 0 4
    have hid:=ZN l
    have pM:=ZH (l.map fM)
    have eU:=ZI (l.map fM)
    refine az fun I a w hs=>?_
    refine hs.o (.cl (Y6 (l.map fM))) fun hs=>?_
    refine hs.alloc rfl cG g9 fun b6 I a w hs=>?_
    refine hs.sb 1 fun hs=>?_
    obtain⟨I,hs⟩:=hs.fb 1 6
    refine az fun I a w hs=>?_
    refine hs.o (.cl (YP (l.map fM))) fun hs=>?_
    refine hs.alloc rfl cG g9 fun b7 I a w hs=>?_
    refine hs.sb 2 fun hs=>?_
    obtain⟨I,hs⟩:=hs.fb 2 7
    refine ai fun I a w hs=>?_
    refine hs.o (.c2 (Zs (gq (l.map fM)) (ZG _))) fun hs=>hs.o .nt fun hs=>nn ?_
    refine hs.cd (fun aI=>?_) fun aI=>?_
    ·exfalso;simp at aI
     skip
    ·skip
     refine az fun I a w hs=>?_
     refine wpList_nil ?_
     have hs:=hs.drop 0
     refine aG<|wp_block ?_
     refine St.lo (σ:=Nat) (2::(8::(run 31 41 []))) ⟨fun k=>[(8,AV.int k)],fun k=>[],fun k=>k≤(gq (l.map fM)).au.length⟩ (fun k=>(gq (l.map fM)).au.length-k) 0 hs ?dT ?dU
     case dT=>exact Nat.zero_le _
     case dU=>
      rintro k I a w al hs
      have hk:k≤(gq (l.map fM)).au.length:=al
      refine aW fun I a w hs=>?_
      refine nn ?_
      refine hs.cd (fun aL=>?_) fun aL=>?_
      ·try simp only[B] at aL
       refine wp_skip<|aG<|wp_seq<|wp_block<|wp_seq ?_
       obtain⟨i1,i2,i3⟩:=hid.ob k (by omega)
       have j1:(ab (gq (l.map fM)).au k).aq.length=0:=by show(sv (gq (l.map fM)) k).aq.length=0;rw[i1];rfl
       have j2:(ab (gq (l.map fM)).au k).waits.length=0:=by show(sv (gq (l.map fM)) k).waits.length=0;rw[i2];rfl
       have j3:(ab (gq (l.map fM)).au k).aH.length=0:=by show(sv (gq (l.map fM)) k).aH.length=0;rw[i3];rfl
       refine az fun I a w hs=>?_
       refine aG ?_
       refine hs.cd (fun bf=>?_) fun bf=>?_
       ·exfalso;simp only[B] at bf;omega
        skip
       ·skip
        refine aB fun I a w hs=>?_
        refine nn ?_
        exact hs.ag (k+1) (aL)
      ·try simp only[B] at aL
       refine wp_exit<|aF<|aF<|aY<|aG<|wp_seq ?_
       have j0:(ab (gq (l.map fM)).seen 0).length=0:=by rw[hid.seen _ (bx (by omega))];rfl
       have j1:(ab (gq (l.map fM)).seen 1).length=0:=by rw[hid.seen _ (bx (by omega))];rfl
       refine hs.dk ?_
       refine cq ?_
       refine .o (eZ (i:=0) nB kr .tt .c (fun _=>by omega)) ?_
       refine de ?_
       refine .o (eZ (i:=1) nB kr .tt .c (fun _=>by omega)) ?_
       refine eK ?_
       refine .nil ?_
       intro I a w hs
       refine aG<|wp_ret ?_
       refine hs.rt ?_
       exact bM (by rw[beq_iff_eq];omega)
end Go.Proofs.YtoeioeimmfpefaaGreat
