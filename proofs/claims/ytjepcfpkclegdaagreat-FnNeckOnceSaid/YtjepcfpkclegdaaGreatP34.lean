/- Part 34: contracts of functions, plain facts. -/
import Derived.Test.YtjepcfpkclegdaaGreatP32
import Derived.Test.YtjepcfpkclegdaaGreatP33
set_option linter.unusedVariables false
set_option linter.unusedSimpArgs false
set_option maxRecDepth 100000
set_option maxHeartbeats 4000000
namespace Go.Proofs.YtjepcfpkclegdaaGreat
open Go Go.RowKit
attribute [local irreducible] wpList Code.wp Ok
theorem aea (b:Nat) (x:aE) (e:Ev) (s r q z:Value) (hg:cx x) (ht:x.time<=1000000) (hk:e.kind=4):
 c7 Tryz.prog 128 [AV.val (.pointer (some ⟨b,0,none⟩)),e.av] (x.full b s r q z) (λ_:Value=>True) (λu=>bif (je x e).2 then(je x e).1.full b s u q z else[]) (λ_=>AV.bool (je x e).2):=by
 refine c7.intro 111 Tryz.func128 rfl Tryz.ntmps128 rfl (by kernel_rfl) (λW I a U=>?_)
 change St _ _ [Own.box b 30 [AV.int x.time,AV.val s,AV.val r,AV.val q,AV.val z],Own.row s 61 7 (x.ax.map Server.cells),Own.row r 70 15 (x.ar.map aC.cells),Own.row q 39 13 (x.calls.map Call.cells),Own.row z 34 1 (x.seen.map fE)] _ _ _ at U
 have oH:=hg.lens
 have za:=hg.seen
 have zb:=hg.time
 have ku:=hg.ar
 have lD:=hg.ax
 have pC:(jc x e).length<=60:=(Qa hg e).ar
 have D5:(List.map aC.cells x.ar).length<=60:=by rw[List.length_map];exact ku
 obtain⟨bS,cS,rfl⟩:=U.j7 1 rfl (by rw[List.length_map];omega)
 refine aA λI a w U=>?_
 refine U.dk ?_
 refine fK ?_
 refine .o (rz 2 eU .tt rfl) ?_
 refine bn ?_
 refine .o (.cl (jv ..)) ?_
 refine bn ?_
 refine .nil ?_
 intro I a w U
 refine aY ?_
 refine U.cd (λae=>?_) λae=>?_
 ·rw[List.length_map] at ae;replace ae:=nt ae
  refine ai λI a w U=>?_
  refine U.de (.bool false) [] rfl (.cons (.t rfl) .nil) trivial (by rw[DS ae];rfl) (by rw[DS ae];rfl)
 ·rw[List.length_map] at ae;replace ae:=nf ae;have tb:=ae;simp only[aQ,Bool.and_eq_true,decide_eq_true_eq] at tb;have hm:=hg.words _ (aV (l:=x.ar) (k:=e.word.toNat) (by omega))
  refine zt ?_
  refine U.da 9 ?_
  simp only[TD]
  refine fK ?_
  refine .o (Aj 2 eU dr .tt .tt rfl (λ_=>by rw[List.length_map];omega)) ?_
  refine .o (Mg 2 dr .tt rfl (λ_=>by exact fG (by omega)) rfl) ?_
  refine gj.alloc dr eb<|.nil ?_
  intro I a w U
  obtain⟨b5,U⟩:=U.tm (d:=5) rfl
  refine U.sb 5 λU=>?_
  obtain⟨I,U⟩:=U.fb 5 5
  refine nn ?_
  refine St.cut (σ:=Value) (run 16 29 []) ⟨λu=>[],λu=>[Own.box b 30 [AV.int x.time,AV.val (.slice (some ⟨bS,0,none⟩) (x.ax.map Server.cells).length cS),AV.val u,AV.val q,AV.val z],Own.row (.slice (some ⟨bS,0,none⟩) (x.ax.map Server.cells).length cS) 61 7 ((x.ax).map Server.cells),Own.row u 70 15 ((jc x e).map aC.cells),Own.row q 39 13 ((x.calls).map Call.cells),Own.row z 34 1 ((x.seen).map fE)],λu=>True⟩ U ?rf ?rh
  case rf=>
   refine aI λI a w U=>?_
   refine cz (λah=>?_) λah=>?_
   ·refine U.eo [([],none),([],none),([],none),([],none),([0],none),([],none),([],none),([],none),([],none),([],none),([2],some (2,[42])),([],none),([],none),([0],some (0,[42]))] (by kernel_rfl) (by kernel_rfl) rfl ?_
    refine dq ?_
    refine .r [0] (.lb 0) ?_
    refine fi ?_
    refine aS.Mh 2 rfl rfl (PB r x.ar e.word (by omega) (by omega) (by omega)) (aw .r (aw .tt (aw .tt aL))) ?_
    refine bT ?_
    refine aS.B9 0 rfl FY .tt rfl rfl<|.nil ?_
    intro I a w U
    change St _ _ [Own.box b 30 [AV.int x.time,AV.val (.slice (some ⟨bS,0,none⟩) (x.ax.map Server.cells).length cS),AV.val (a.tmps.getD 42 undef),AV.val q,AV.val z],Own.row (.slice (some ⟨bS,0,none⟩) (x.ax.map Server.cells).length cS) 61 7 ((x.ax).map Server.cells),Own.row (a.tmps.getD 42 undef) 70 15 ((x.ar.take e.word.toNat++x.ar.drop (e.word.toNat+1)).map aC.cells),Own.row q 39 13 ((x.calls).map Call.cells),Own.row z 34 1 ((x.seen).map fE),Own.gone] _ _ _ at U
    generalize a.tmps.getD 42 undef=ph at U
    refine aY ?_
    have U:=U.drop 5
    first|have U:=U.pass (H':=[Own.box b 30 [AV.int x.time,AV.val (.slice (some ⟨bS,0,none⟩) (x.ax.map Server.cells).length cS),AV.val ph,AV.val q,AV.val z],Own.row (.slice (some ⟨bS,0,none⟩) (x.ax.map Server.cells).length cS) 61 7 ((x.ax).map Server.cells),Own.row ph 70 15 ((jc x e).map aC.cells),Own.row q 39 13 ((x.calls).map Call.cells),Own.row z 34 1 ((x.seen).map fE)]) (congrArg (λl:List aC=>[Own.box b 30 [AV.int x.time,AV.val (.slice (some ⟨bS,0,none⟩) (x.ax.map Server.cells).length cS),AV.val ph,AV.val q,AV.val z],Own.row (.slice (some ⟨bS,0,none⟩) (x.ax.map Server.cells).length cS) 61 7 ((x.ax).map Server.cells),Own.row ph 70 15 ((l).map aC.cells),Own.row q 39 13 ((x.calls).map Call.cells),Own.row z 34 1 ((x.seen).map fE)]) (show x.ar.take e.word.toNat++x.ar.drop (e.word.toNat+1)=jc x e from(if_pos (.inr ah)).symm))|have U:=U.pass (H':=[Own.box b 30 [AV.int x.time,AV.val (.slice (some ⟨bS,0,none⟩) (x.ax.map Server.cells).length cS),AV.val r,AV.val q,AV.val z],Own.row (.slice (some ⟨bS,0,none⟩) (x.ax.map Server.cells).length cS) 61 7 ((x.ax).map Server.cells),Own.row r 70 15 ((jc x e).map aC.cells),Own.row q 39 13 ((x.calls).map Call.cells),Own.row z 34 1 ((x.seen).map fE)]) (congrArg (λl:List aC=>[Own.box b 30 [AV.int x.time,AV.val (.slice (some ⟨bS,0,none⟩) (x.ax.map Server.cells).length cS),AV.val r,AV.val q,AV.val z],Own.row (.slice (some ⟨bS,0,none⟩) (x.ax.map Server.cells).length cS) 61 7 ((x.ax).map Server.cells),Own.row r 70 15 ((l).map aC.cells),Own.row q 39 13 ((x.calls).map Call.cells),Own.row z 34 1 ((x.seen).map fE)]) (show x.ar=jc x e from(if_neg (by rw[hk];simpa using ah)).symm))
    exact U.me ph (by trivial)
   ·refine wp_skip<|aY ?_
    have U:=U.drop 5
    first|have U:=U.pass (H':=[Own.box b 30 [AV.int x.time,AV.val (.slice (some ⟨bS,0,none⟩) (x.ax.map Server.cells).length cS),AV.val ph,AV.val q,AV.val z],Own.row (.slice (some ⟨bS,0,none⟩) (x.ax.map Server.cells).length cS) 61 7 ((x.ax).map Server.cells),Own.row ph 70 15 ((jc x e).map aC.cells),Own.row q 39 13 ((x.calls).map Call.cells),Own.row z 34 1 ((x.seen).map fE)]) (congrArg (λl:List aC=>[Own.box b 30 [AV.int x.time,AV.val (.slice (some ⟨bS,0,none⟩) (x.ax.map Server.cells).length cS),AV.val ph,AV.val q,AV.val z],Own.row (.slice (some ⟨bS,0,none⟩) (x.ax.map Server.cells).length cS) 61 7 ((x.ax).map Server.cells),Own.row ph 70 15 ((l).map aC.cells),Own.row q 39 13 ((x.calls).map Call.cells),Own.row z 34 1 ((x.seen).map fE)]) (show x.ar.take e.word.toNat++x.ar.drop (e.word.toNat+1)=jc x e from(if_pos (.inr ah)).symm))|have U:=U.pass (H':=[Own.box b 30 [AV.int x.time,AV.val (.slice (some ⟨bS,0,none⟩) (x.ax.map Server.cells).length cS),AV.val r,AV.val q,AV.val z],Own.row (.slice (some ⟨bS,0,none⟩) (x.ax.map Server.cells).length cS) 61 7 ((x.ax).map Server.cells),Own.row r 70 15 ((jc x e).map aC.cells),Own.row q 39 13 ((x.calls).map Call.cells),Own.row z 34 1 ((x.seen).map fE)]) (congrArg (λl:List aC=>[Own.box b 30 [AV.int x.time,AV.val (.slice (some ⟨bS,0,none⟩) (x.ax.map Server.cells).length cS),AV.val r,AV.val q,AV.val z],Own.row (.slice (some ⟨bS,0,none⟩) (x.ax.map Server.cells).length cS) 61 7 ((x.ax).map Server.cells),Own.row r 70 15 ((l).map aC.cells),Own.row q 39 13 ((x.calls).map Call.cells),Own.row z 34 1 ((x.seen).map fE)]) (show x.ar=jc x e from(if_neg (by rw[hk];simpa using ah)).symm))
    exact U.me r (by trivial)
  case rh=>
   rintro u I a w aj U
   refine aF λI a w U=>?_
   refine U.o (.c1 (tG ..)) λU=>?_
   refine zt ?_
   refine U.cd (λal=>?_) λal=>?_
   ·have ke:=m0.1 al;have iP:=(hg.site (ab x.ar e.word.toNat).to.toNat (by omega)).2
    refine wp_seq ?_
    have U:=U.fT
    refine U.eo [([],none),([],none),([],none),([0],none),([],none),([],none),([1],none),([1],none),([],none),([],none),([],none),([],none),([],none),([5],some (5,[6])),([5],some (5,[6])),([],none)] (by kernel_rfl) (by kernel_rfl) rfl ?_
    refine cD ?_
    refine .r [0] (.lb 0) ?_
    refine bT ?_
    refine .r [1] (jr tw cm .tt .tt (λ_=>by rw[List.length_map];omega)) ?_
    refine .r [1] (rA 1 cm .tt rfl (λ_=>by exact fG (by omega)) rfl) ?_
    refine bn ?_
    refine .o (.c2 (adH (ab x.ax (ab x.ar e.word.toNat).to.toNat) (ab x.ar e.word.toNat) iP hm)) ?_
    refine cD ?_
    refine aS.alloc 5 rfl rfl cm dF<|aS.mz 5 rfl cm rfl .tt rfl rfl ?_
    refine bn ?_
    refine .nil ?_
    intro I a w U
    obtain⟨b6,U⟩:=U.lC (d:=6) 5 rfl rfl
    obtain⟨I,U⟩:=U.fb 5 6
    refine zt ?_
    refine U.dt 8 ?_
    simp only[TD]
    refine lF ?_
    refine .o (jr tw cm .tt .tt (λ_=>by rw[List.length_map];omega)) ?_
    refine .nil ?_
    intro I a w U
    refine U.lX 1 cm .tt .tt rfl (by exact fG (by omega)) rfl rfl λa w U=>?_
    refine wpList_nil ?_
    have e9:∀y,y=Server.cells (fJ (ab x.ax (ab x.ar e.word.toNat).to.toNat) (ab x.ar e.word.toNat)).1->(List.map Server.cells x.ax).set (ab x.ar e.word.toNat).to.toNat y=List.map Server.cells (x.ax.set (ab x.ar e.word.toNat).to.toNat (fJ (ab x.ax (ab x.ar e.word.toNat).to.toNat) (ab x.ar e.word.toNat)).1):=λy hy=>by rw[hy,List.map_set]
    rw[e9] at U
    rotate_left
    ·rfl
    refine aF λI a w U=>?_
    refine U.cG [0,2] (DG b x.time (.slice (some ⟨bS,0,none⟩) (x.ax.map Server.cells).length cS) u q z (jc x e) (fJ (ab x.ax (ab x.ar e.word.toNat).to.toNat) (ab x.ar e.word.toNat)).2 pC (QH iP hm).1 (QH iP hm).2) (aw .tt (aw .r aL)) rfl (by decide) rfl λu2 I a w alr U=>?_
    refine ai λI a w U=>?_
    have hR:je x e=({x with ax:=x.ax.set (ab x.ar e.word.toNat).to.toNat (fJ (ab x.ax (ab x.ar e.word.toNat).to.toNat) (ab x.ar e.word.toNat)).1,ar:=eF (jc x e) (fJ (ab x.ax (ab x.ar e.word.toNat).to.toNat) (ab x.ar e.word.toNat)).2},true):=by rw[vy ae,if_neg (by rw[hk];decide),if_neg (by rw[Yf al];simp)]
    refine U.de u2 [0,1,2,3,4] rfl (.cons (.t rfl) .nil) trivial (by rw[hR];rfl) (by rw[hR];rfl)
   ·have ke:=Xk hm al;have aeb:=ke;simp only[aQ,Bool.and_eq_true,decide_eq_true_eq] at aeb
    refine dD λI a w U=>?_
    refine U.o (Ci (xs:=[AV.val (.pointer (some ⟨b,0,none⟩)),AV.int ((ab x.ar e.word.toNat).to-10)]) (rM:=[AV.ptr [AV.int x.time,AV.val (.slice (some ⟨bS,0,none⟩) (x.ax.map Server.cells).length cS),AV.val u,bK x.calls,AV.val z],AV.int ((ab x.ar e.word.toNat).to-10)]) (Hn x.calls x.time (.slice (some ⟨bS,0,none⟩) (x.ax.map Server.cells).length cS) u z ((ab x.ar e.word.toNat).to-10)) (aw .tt (aw .tt aL)) (λc I a w U=>by obtain⟨I,U⟩:=U.fu 3 3 0;obtain⟨I,U⟩:=U.fb 0 0;exact⟨_,_,_,U,rfl,rfl,trivial⟩)) λU=>?_
    refine aI λI a w U=>?_
    refine cz (λaH=>?_) λaH=>?_
    ·obtain⟨h1,h2,h3⟩:=qu (show 0<=(cq x.calls ((ab x.ar e.word.toNat).to-10)) by omega)
     have hq:=y9 (m:=(ab x.ar e.word.toNat)) (hg.call h1)
     obtain⟨bC,cC,rfl⟩:=U.j7 3 rfl (by rw[List.length_map];omega)
     refine wp_seq ?_
     refine U.da 14 ?_
     simp only[TD]
     refine fi ?_
     refine .o (jr mB dQ .tt .tt (λ_=>by rw[List.length_map];omega)) ?_
     refine .o (rA 3 dQ .tt rfl (λ_=>by exact fG (by omega)) rfl) ?_
     refine fi ?_
     refine .o (.c3 (ady (ab x.calls (cq x.calls ((ab x.ar e.word.toNat).to-10)).toNat) (ab x.ar e.word.toNat) x.time (hg.call h1) ht hm))<|gj.alloc dQ gD<|.nil ?_
     intro I a w U
     obtain⟨lN,U⟩:=U.tm (d:=10) rfl
     refine ai λI a w U=>?_
     obtain⟨I,U⟩:=U.fb 5 10
     refine U.dt 7 ?_
     simp only[TD]
     refine fK ?_
     refine .o (jr mB dQ .tt .tt (λ_=>by rw[List.length_map];omega)) ?_
     refine .nil ?_
     intro I a w U
     refine U.lX 3 dQ .tt .tt rfl (by exact fG (by omega)) rfl rfl λa w U=>?_
     refine wpList_nil ?_
     have e9:∀y,y=Call.cells (dm (ab x.calls (cq x.calls ((ab x.ar e.word.toNat).to-10)).toNat) (ab x.ar e.word.toNat) x.time)->(List.map Call.cells x.calls).set (cq x.calls ((ab x.ar e.word.toNat).to-10)).toNat y=List.map Call.cells (x.calls.set (cq x.calls ((ab x.ar e.word.toNat).to-10)).toNat (dm (ab x.calls (cq x.calls ((ab x.ar e.word.toNat).to-10)).toNat) (ab x.ar e.word.toNat) x.time)):=λy hy=>by rw[hy,List.map_set]
     rw[e9] at U
     rotate_left
     ·rfl
     refine aI λI a w U=>?_
     refine cz (λaM=>?_) λaM=>?_
     ·obtain⟨bZ,cZ,rfl⟩:=U.j7 4 rfl (by rw[List.length_map];omega)
      refine U.dt 8 ?_
      simp only[TD]
      refine fK ?_
      refine .o (.c1 (DI (dm (ab x.calls (cq x.calls ((ab x.ar e.word.toNat).to-10)).toNat) (ab x.ar e.word.toNat) x.time) x.time (pZ.2 hq))) ?_
      refine .o (jr wx oc .tt .tt (λ_=>by rw[List.length_map];omega)) ?_
      refine .nil ?_
      intro I a w U
      refine U.zP (j:=0) 4 oc .tt .tt (by first|exact jR rfl|exact j0|exact j1|exact j6|assumption) rfl (by exact fG (by omega)) rfl rfl λa w U=>?_
      refine wpList_nil ?_
      have e8:∀y,y=fE (dP (dm (ab x.calls (cq x.calls ((ab x.ar e.word.toNat).to-10)).toNat) (ab x.ar e.word.toNat) x.time))->(List.map fE x.seen).set ((ab x.ar e.word.toNat).to-10).toNat y=List.map fE (x.seen.set ((ab x.ar e.word.toNat).to-10).toNat (dP (dm (ab x.calls (cq x.calls ((ab x.ar e.word.toNat).to-10)).toNat) (ab x.ar e.word.toNat) x.time))):=λy hy=>by rw[hy,List.map_set]
      rw[e8] at U
      rotate_left
      ·rfl
      refine ai λI a w U=>?_
      have hR:je x e=({x with ar:=jc x e,calls:=x.calls.set (cq x.calls ((ab x.ar e.word.toNat).to-10)).toNat (dm (ab x.calls (cq x.calls ((ab x.ar e.word.toNat).to-10)).toNat) (ab x.ar e.word.toNat) x.time),seen:=x.seen.set ((ab x.ar e.word.toNat).to-10).toNat (dP (dm (ab x.calls (cq x.calls ((ab x.ar e.word.toNat).to-10)).toNat) (ab x.ar e.word.toNat) x.time))},true):=by rw[vy ae,if_neg (by rw[hk];decide),if_pos ke];unfold mb;dsimp only;rw[if_neg (by omega),if_pos aM]
      refine U.de u [0,1,2,3,4] rfl (.cons (.t rfl) .nil) trivial (by rw[hR];rfl) (by rw[hR];rfl)
     ·refine ai λI a w U=>?_
      have hR:je x e=({x with ar:=jc x e,calls:=x.calls.set (cq x.calls ((ab x.ar e.word.toNat).to-10)).toNat (dm (ab x.calls (cq x.calls ((ab x.ar e.word.toNat).to-10)).toNat) (ab x.ar e.word.toNat) x.time)},true):=by rw[vy ae,if_neg (by rw[hk];decide),if_pos ke];unfold mb;dsimp only;rw[if_neg (by omega),if_neg (by omega)]
      refine U.de u [0,1,2,3,4] rfl (.cons (.t rfl) .nil) trivial (by rw[hR];rfl) (by rw[hR];rfl)
    ·refine ai λI a w U=>?_
     have hR:je x e=({x with ar:=jc x e},true):=by rw[vy ae,if_neg (by rw[hk];decide),if_pos ke];unfold mb;dsimp only;rw[if_pos (by omega)]
     refine U.de u [0,1,2,3,4] rfl (.cons (.t rfl) .nil) trivial (by rw[hR];rfl) (by rw[hR];rfl)
end Go.Proofs.YtjepcfpkclegdaaGreat
