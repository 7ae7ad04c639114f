/- Part 43: rules of the proofs, contracts of functions, plain facts. -/
import Derived.Test.YtoeioeimmfpefaaGreatP42
set_option linter.unusedVariables false
set_option linter.unusedSimpArgs false
set_option maxRecDepth 100000
set_option maxHeartbeats 4000000
namespace Go.Proofs.YtoeioeimmfpefaaGreat
open Go Go.RowKit
attribute [local irreducible] wpList Code.wp Ok
theorem Ls (v:Value) (l:List aD) (i:Int) (h0:0≤i) (hi:i<l.length) (hl:l.length≤1048576):cL Tryz.prog 136 [AV.val v,AV.int i,AV.int (i+1)] [Own.row v 74 15 (l.map aD.cells)] (fun _:Value=>True) (fun u=>[Own.row u 74 15 ((l.take i.toNat++l.drop (i.toNat+1)).map aD.cells)]) AV.val:=by
 obtain⟨n,rfl⟩:=Int.eq_ofNat_of_zero_le h0
 rw[List.map_append,List.map_take,List.map_drop]
 exact SB v (l.map aD.cells) n (by rw[List.length_map];omega) (by rw[List.length_map];omega) (fun r hr=>by obtain⟨u,_,rfl⟩:=List.mem_map.1 hr;rfl)
theorem Wf {m:aD} (h:bN m=true) (hs:cJ m.to=false):aQ m.to 10 11=true:=by
 have:=(mr h).2.2.1
 unfold j7 at this
 rw[hs,Bool.false_or] at this;exact this
theorem Wg {n:Int} (h:cJ n=true):aQ n 10 11=false:=by
 have:=kS.1 h
 unfold aQ
 rw[Bool.and_eq_false_iff,decide_eq_false_iff_not,decide_eq_false_iff_not];omega
theorem Lt {s:Server} {m:aD} (hg:bw s) (hm:bN m=true):(eX s m).2.length≤1048576∧∀y∈(eX s m).2,iV y:=by
 unfold eX
 split
 ·exact⟨by have:=JU s m;omega,fun y hy=>sX (C4 hg hm y hy)⟩
 ·exact⟨Nat.zero_le _,fun y hy=>by cases hy⟩
set_option maxHeartbeats 4000000 in
theorem Wh (b:Nat) (x:be) (e:Ev) (s r q z:Value) (hg:cK x) (ht:x.time≤1000000) (hk:e.kind=4):
 cL Tryz.prog 135 [AV.val (.pointer (some ⟨b,0,none⟩)),e.av] (x.full b s r q z) (fun _:Value=>True) (fun u=>bif (gX x e).2 then(gX x e).1.full b s u q z else[]) (fun _=>AV.bool (gX x e).2):=by
 refine cL.intro 111 Tryz.func135 rfl Tryz.ntmps135 rfl (by kernel_rfl) (fun W I a hs=>?_)
 change St _ _ [Own.box b 28 [AV.int x.time,AV.val s,AV.val r,AV.val q,AV.val z],Own.row s 44 7 (x.au.map Server.cells),Own.row r 74 15 (x.ao.map aD.cells),Own.row q 51 13 (x.calls.map Call.cells),Own.row z 42 1 (x.seen.map ey)] _ _ _ at hs
 have m9:=hg.lens
 have z1:=hg.seen
 have uV:=hg.time
 have ix:=hg.ao
 have pM:=hg.au
 have pR:(fY x e).length≤60:=(Ln hg e).ao
 have xm:(List.map aD.cells x.ao).length≤60:=by rw[List.length_map];exact ix
 obtain⟨bS,cS,rfl⟩:=hs.g8 1 rfl (by rw[List.length_map];omega)
 refine ai fun I a w hs=>?_
 refine nn<|wp_seq<|wp_seq<|hs.dk ?_
 refine fP ?_
 refine .o (ni 2 dh .tt rfl) ?_
 refine bz ?_
 refine .o (.cl (hC ..)) ?_
 refine bz ?_
 refine .nil ?_
 intro I a w hs
 refine aG ?_
 refine hs.cd (fun ae=>?_) fun ae=>?_
 ·rw[List.length_map] at ae;replace ae:=nt ae
  refine az fun I a w hs=>?_
  refine nn<|wp_ret<|aE ?_
  refine hs.cP (.bool false) [] rfl (.cons (.t rfl) .nil) trivial (by rw[z5 ae];rfl) (by rw[z5 ae];rfl)
 ·rw[List.length_map] at ae;replace ae:=nf ae;have pG:=ae;simp only[aQ,Bool.and_eq_true,decide_eq_true_eq] at pG;have hm:=hg.words _ (bx (l:=x.ao) (k:=e.word.toNat) (by omega))
  refine wp_skip<|aG<|wp_seq ?_
  refine hs.mG 9 (by kernel_rfl) (by kernel_rfl) (by kernel_rfl) ?_
  simp only[List.take_succ_cons,List.take_zero,List.drop_succ_cons,List.drop_zero]
  refine fP ?_
  refine .o (tj 2 dh cj .tt .tt rfl (fun _=>by rw[List.length_map];omega)) ?_
  refine .o (KU 2 cj .tt rfl (fun _=>by exact ek (by omega)) rfl) ?_
  refine fl.alloc cj dB<|.nil ?_
  intro I a w hs
  obtain⟨b5,hs⟩:=hs.qL (d:=5) rfl
  refine hs.sb 5 fun hs=>?_
  obtain⟨I,hs⟩:=hs.fb 5 5
  refine nn ?_
  refine St.cut (σ:=Value) (run 16 29 []) ⟨fun u=>[],fun u=>[Own.box b 28 [AV.int x.time,AV.val (.slice (some ⟨bS,0,none⟩) (x.au.map Server.cells).length cS),AV.val u,AV.val q,AV.val z],Own.row (.slice (some ⟨bS,0,none⟩) (x.au.map Server.cells).length cS) 44 7 ((x.au).map Server.cells),Own.row u 74 15 ((fY x e).map aD.cells),Own.row q 51 13 ((x.calls).map Call.cells),Own.row z 42 1 ((x.seen).map ey)],fun u=>True⟩ hs ?n6 ?n7
  case n6=>
   refine aB fun I a w hs=>?_
   refine nn ?_
   refine hs.cd (fun ah=>?_) fun ah=>?_
   ·try simp only[B] at ah
    refine hs.eT [([],none),([],none),([],none),([],none),([0],none),([],none),([],none),([],none),([],none),([],none),([2],some (2,[42])),([],none),([],none),([0],some (0,[42]))] (by kernel_rfl) (by kernel_rfl) rfl ?_
    refine de ?_
    refine .r [0] (.lb 0) ?_
    refine eK ?_
    refine aV.KV 2 rfl rfl (Ls r x.ao e.word (by omega) (by omega) (by omega)) (aw .r (aw .tt (aw .tt aP))) ?_
    refine cq ?_
    refine aV.x6 0 rfl BU .tt rfl rfl<|.nil ?_
    intro I a w hs
    change St _ _ [Own.box b 28 [AV.int x.time,AV.val (.slice (some ⟨bS,0,none⟩) (x.au.map Server.cells).length cS),AV.val (a.tmps.getD 42 undef),AV.val q,AV.val z],Own.row (.slice (some ⟨bS,0,none⟩) (x.au.map Server.cells).length cS) 44 7 ((x.au).map Server.cells),Own.row (a.tmps.getD 42 undef) 74 15 ((x.ao.take e.word.toNat++x.ao.drop (e.word.toNat+1)).map aD.cells),Own.row q 51 13 ((x.calls).map Call.cells),Own.row z 42 1 ((x.seen).map ey),Own.gone] _ _ _ at hs
    generalize a.tmps.getD 42 undef=my at hs
    refine aG ?_
    have hs:=hs.drop 5
    first|have hs:=hs.pass (H':=[Own.box b 28 [AV.int x.time,AV.val (.slice (some ⟨bS,0,none⟩) (x.au.map Server.cells).length cS),AV.val my,AV.val q,AV.val z],Own.row (.slice (some ⟨bS,0,none⟩) (x.au.map Server.cells).length cS) 44 7 ((x.au).map Server.cells),Own.row my 74 15 ((fY x e).map aD.cells),Own.row q 51 13 ((x.calls).map Call.cells),Own.row z 42 1 ((x.seen).map ey)]) (congrArg (fun l:List aD=>[Own.box b 28 [AV.int x.time,AV.val (.slice (some ⟨bS,0,none⟩) (x.au.map Server.cells).length cS),AV.val my,AV.val q,AV.val z],Own.row (.slice (some ⟨bS,0,none⟩) (x.au.map Server.cells).length cS) 44 7 ((x.au).map Server.cells),Own.row my 74 15 ((l).map aD.cells),Own.row q 51 13 ((x.calls).map Call.cells),Own.row z 42 1 ((x.seen).map ey)]) (show x.ao.take e.word.toNat++x.ao.drop (e.word.toNat+1)=fY x e from(if_pos (.inr ah)).symm))|have hs:=hs.pass (H':=[Own.box b 28 [AV.int x.time,AV.val (.slice (some ⟨bS,0,none⟩) (x.au.map Server.cells).length cS),AV.val r,AV.val q,AV.val z],Own.row (.slice (some ⟨bS,0,none⟩) (x.au.map Server.cells).length cS) 44 7 ((x.au).map Server.cells),Own.row r 74 15 ((fY x e).map aD.cells),Own.row q 51 13 ((x.calls).map Call.cells),Own.row z 42 1 ((x.seen).map ey)]) (congrArg (fun l:List aD=>[Own.box b 28 [AV.int x.time,AV.val (.slice (some ⟨bS,0,none⟩) (x.au.map Server.cells).length cS),AV.val r,AV.val q,AV.val z],Own.row (.slice (some ⟨bS,0,none⟩) (x.au.map Server.cells).length cS) 44 7 ((x.au).map Server.cells),Own.row r 74 15 ((l).map aD.cells),Own.row q 51 13 ((x.calls).map Call.cells),Own.row z 42 1 ((x.seen).map ey)]) (show x.ao=fY x e from(if_neg (by rw[hk];simpa using ah)).symm))
    exact hs.me my (by trivial)
   ·try simp only[B] at ah
    refine wp_skip<|aG ?_
    have hs:=hs.drop 5
    first|have hs:=hs.pass (H':=[Own.box b 28 [AV.int x.time,AV.val (.slice (some ⟨bS,0,none⟩) (x.au.map Server.cells).length cS),AV.val my,AV.val q,AV.val z],Own.row (.slice (some ⟨bS,0,none⟩) (x.au.map Server.cells).length cS) 44 7 ((x.au).map Server.cells),Own.row my 74 15 ((fY x e).map aD.cells),Own.row q 51 13 ((x.calls).map Call.cells),Own.row z 42 1 ((x.seen).map ey)]) (congrArg (fun l:List aD=>[Own.box b 28 [AV.int x.time,AV.val (.slice (some ⟨bS,0,none⟩) (x.au.map Server.cells).length cS),AV.val my,AV.val q,AV.val z],Own.row (.slice (some ⟨bS,0,none⟩) (x.au.map Server.cells).length cS) 44 7 ((x.au).map Server.cells),Own.row my 74 15 ((l).map aD.cells),Own.row q 51 13 ((x.calls).map Call.cells),Own.row z 42 1 ((x.seen).map ey)]) (show x.ao.take e.word.toNat++x.ao.drop (e.word.toNat+1)=fY x e from(if_pos (.inr ah)).symm))|have hs:=hs.pass (H':=[Own.box b 28 [AV.int x.time,AV.val (.slice (some ⟨bS,0,none⟩) (x.au.map Server.cells).length cS),AV.val r,AV.val q,AV.val z],Own.row (.slice (some ⟨bS,0,none⟩) (x.au.map Server.cells).length cS) 44 7 ((x.au).map Server.cells),Own.row r 74 15 ((fY x e).map aD.cells),Own.row q 51 13 ((x.calls).map Call.cells),Own.row z 42 1 ((x.seen).map ey)]) (congrArg (fun l:List aD=>[Own.box b 28 [AV.int x.time,AV.val (.slice (some ⟨bS,0,none⟩) (x.au.map Server.cells).length cS),AV.val r,AV.val q,AV.val z],Own.row (.slice (some ⟨bS,0,none⟩) (x.au.map Server.cells).length cS) 44 7 ((x.au).map Server.cells),Own.row r 74 15 ((l).map aD.cells),Own.row q 51 13 ((x.calls).map Call.cells),Own.row z 42 1 ((x.seen).map ey)]) (show x.ao=fY x e from(if_neg (by rw[hk];simpa using ah)).symm))
    exact hs.me r (by trivial)
  case n7=>
   rintro u I a w al hs
   refine ai fun I a w hs=>?_
   refine hs.o (.c1 (pU ..)) fun hs=>nn ?_
   refine hs.cd (fun aj=>?_) fun aj=>?_
   ·have oP:=kS.1 aj;have ib:=(hg.site (ab x.ao e.word.toNat).to.toNat (by omega)).2
    refine wp_seq ?_
    have hs:=hs.gN
    refine hs.eT [([],none),([],none),([],none),([0],none),([],none),([],none),([1],none),([1],none),([],none),([],none),([],none),([],none),([],none),([5],some (5,[6])),([5],some (5,[6])),([],none)] (by kernel_rfl) (by kernel_rfl) rfl ?_
    refine du ?_
    refine .r [0] (.lb 0) ?_
    refine cq ?_
    refine .r [1] (gv kt ba .tt .tt (fun _=>by rw[List.length_map];omega)) ?_
    refine .r [1] (oj 1 ba .tt rfl (fun _=>by exact ek (by omega)) rfl) ?_
    refine bz ?_
    refine .o (.c2 (V1 (ab x.au (ab x.ao e.word.toNat).to.toNat) (ab x.ao e.word.toNat) ib hm)) ?_
    refine du ?_
    refine aV.alloc 5 rfl rfl ba df<|aV.pL 5 rfl ba rfl .tt rfl rfl ?_
    refine bz ?_
    refine .nil ?_
    intro I a w hs
    obtain⟨b6,hs⟩:=hs.nw (d:=6) 5 rfl rfl
    obtain⟨I,hs⟩:=hs.fb 5 6
    refine aG<|wp_seq ?_
    refine hs.dp 8 (by kernel_rfl) (by kernel_rfl) (by kernel_rfl) ?_
    simp only[List.take_succ_cons,List.take_zero,List.drop_succ_cons,List.drop_zero]
    refine jS ?_
    refine .o (gv kt ba .tt .tt (fun _=>by rw[List.length_map];omega)) ?_
    refine .nil ?_
    intro I a w hs
    refine hs.jx 1 ba .tt .tt rfl (by exact ek (by omega)) rfl rfl fun a w hs=>?_
    refine wpList_nil ?_
    have e9:∀y,y=Server.cells (eX (ab x.au (ab x.ao e.word.toNat).to.toNat) (ab x.ao e.word.toNat)).1→(List.map Server.cells x.au).set (ab x.ao e.word.toNat).to.toNat y=List.map Server.cells (x.au.set (ab x.ao e.word.toNat).to.toNat (eX (ab x.au (ab x.ao e.word.toNat).to.toNat) (ab x.ao e.word.toNat)).1):=fun y hy=>by rw[hy,List.map_set]
    rw[e9] at hs
    rotate_left
    ·rfl
    refine ai fun I a w hs=>?_
    refine hs.cW [0,2] (z8 b x.time (.slice (some ⟨bS,0,none⟩) (x.au.map Server.cells).length cS) u q z (fY x e) (eX (ab x.au (ab x.ao e.word.toNat).to.toNat) (ab x.ao e.word.toNat)).2 pR (Lt ib hm).1 (Lt ib hm).2) (aw .tt (aw .r aP)) rfl (by decide) rfl fun u2 I a w adC hs=>?_
    refine az fun I a w hs=>?_
    refine nn<|wp_ret<|aE ?_
    have hR:gX x e=({x with au:=x.au.set (ab x.ao e.word.toNat).to.toNat (eX (ab x.au (ab x.ao e.word.toNat).to.toNat) (ab x.ao e.word.toNat)).1,ao:=dQ (fY x e) (eX (ab x.au (ab x.ao e.word.toNat).to.toNat) (ab x.ao e.word.toNat)).2},true):=by rw[rH ae,if_neg (by rw[hk];decide),if_neg (by rw[Wg aj];simp)]
    refine hs.cP u2 [0,1,2,3,4] rfl (.cons (.t rfl) .nil) trivial (by rw[hR];rfl) (by rw[hR];rfl)
   ·have oP:=Wf hm aj;have Wi:=oP;simp only[aQ,Bool.and_eq_true,decide_eq_true_eq] at Wi
    refine cx fun I a w hs=>?_
    refine hs.o (yi (xs:=[AV.val (.pointer (some ⟨b,0,none⟩)),AV.int ((ab x.ao e.word.toNat).to-10)]) (ow:=[AV.ptr [AV.int x.time,AV.val (.slice (some ⟨bS,0,none⟩) (x.au.map Server.cells).length cS),AV.val u,bE x.calls,AV.val z],AV.int ((ab x.ao e.word.toNat).to-10)]) (Ec x.calls x.time (.slice (some ⟨bS,0,none⟩) (x.au.map Server.cells).length cS) u z ((ab x.ao e.word.toNat).to-10)) (aw .tt (aw .tt aP)) (fun c I a w hs=>by obtain⟨I,hs⟩:=hs.fu 3 3 0;obtain⟨I,hs⟩:=hs.fb 0 0;exact⟨_,_,_,hs,rfl,rfl,trivial⟩)) fun hs=>?_
    refine aB fun I a w hs=>?_
    refine nn ?_
    refine hs.cd (fun aI=>?_) fun aI=>?_
    ·simp only[B] at aI
     obtain⟨h1,h2,h3⟩:=nW (show 0≤(bW x.calls ((ab x.ao e.word.toNat).to-10)) by omega)
     have hq:=zq (m:=(ab x.ao e.word.toNat)) (hg.call h1)
     obtain⟨bC,cC,rfl⟩:=hs.g8 3 rfl (by rw[List.length_map];omega)
     refine wp_seq ?_
     refine hs.mG 14 (by kernel_rfl) (by kernel_rfl) (by kernel_rfl) ?_
     simp only[List.take_succ_cons,List.take_zero,List.drop_succ_cons,List.drop_zero]
     refine eK ?_
     refine .o (gv iD cy .tt .tt (fun _=>by rw[List.length_map];omega)) ?_
     refine .o (oj 3 cy .tt rfl (fun _=>by exact ek (by omega)) rfl) ?_
     refine eK ?_
     refine .o (.c3 (VZ (ab x.calls (bW x.calls ((ab x.ao e.word.toNat).to-10)).toNat) (ab x.ao e.word.toNat) x.time (hg.call h1) ht hm))<|fl.alloc cy iP<|.nil ?_
     intro I a w hs
     obtain⟨kb,hs⟩:=hs.qL (d:=10) rfl
     refine hs.sb 5 fun hs=>?_
     obtain⟨I,hs⟩:=hs.fb 5 10
     refine nn<|wp_seq ?_
     refine hs.dp 7 (by kernel_rfl) (by kernel_rfl) (by kernel_rfl) ?_
     simp only[List.take_succ_cons,List.take_zero,List.drop_succ_cons,List.drop_zero]
     refine fP ?_
     refine .o (gv iD cy .tt .tt (fun _=>by rw[List.length_map];omega)) ?_
     refine .nil ?_
     intro I a w hs
     refine hs.jx 3 cy .tt .tt rfl (by exact ek (by omega)) rfl rfl fun a w hs=>?_
     refine wpList_nil ?_
     have e9:∀y,y=Call.cells (c4 (ab x.calls (bW x.calls ((ab x.ao e.word.toNat).to-10)).toNat) (ab x.ao e.word.toNat) x.time)→(List.map Call.cells x.calls).set (bW x.calls ((ab x.ao e.word.toNat).to-10)).toNat y=List.map Call.cells (x.calls.set (bW x.calls ((ab x.ao e.word.toNat).to-10)).toNat (c4 (ab x.calls (bW x.calls ((ab x.ao e.word.toNat).to-10)).toNat) (ab x.ao e.word.toNat) x.time)):=fun y hy=>by rw[hy,List.map_set]
     rw[e9] at hs
     rotate_left
     ·rfl
     refine aB fun I a w hs=>?_
     refine nn ?_
     refine hs.cd (fun aL=>?_) fun aL=>?_
     ·simp only[B] at aL
      obtain⟨bZ,cZ,rfl⟩:=hs.g8 4 rfl (by rw[List.length_map];omega)
      refine hs.dp 8 (by kernel_rfl) (by kernel_rfl) (by kernel_rfl) ?_
      simp only[List.take_succ_cons,List.take_zero,List.drop_succ_cons,List.drop_zero]
      refine fP ?_
      refine .o (.c1 (QA (c4 (ab x.calls (bW x.calls ((ab x.ao e.word.toNat).to-10)).toNat) (ab x.ao e.word.toNat) x.time) x.time (oO.2 hq))) ?_
      refine .o (gv nB kr .tt .tt (fun _=>by rw[List.length_map];omega)) ?_
      refine .nil ?_
      intro I a w hs
      refine hs.tM (j:=0) 4 kr .tt .tt (by first|exact iY rfl|exact jj|exact jk|exact jl|assumption) rfl (by exact ek (by omega)) rfl rfl fun a w hs=>?_
      refine wpList_nil ?_
      have e8:∀y,y=ey (hP (c4 (ab x.calls (bW x.calls ((ab x.ao e.word.toNat).to-10)).toNat) (ab x.ao e.word.toNat) x.time))→(List.map ey x.seen).set ((ab x.ao e.word.toNat).to-10).toNat y=List.map ey (x.seen.set ((ab x.ao e.word.toNat).to-10).toNat (hP (c4 (ab x.calls (bW x.calls ((ab x.ao e.word.toNat).to-10)).toNat) (ab x.ao e.word.toNat) x.time))):=fun y hy=>by rw[hy,List.map_set]
      rw[e8] at hs
      rotate_left
      ·rfl
      refine az fun I a w hs=>?_
      refine nn<|wp_ret ?_
      have hR:gX x e=({x with ao:=fY x e,calls:=x.calls.set (bW x.calls ((ab x.ao e.word.toNat).to-10)).toNat (c4 (ab x.calls (bW x.calls ((ab x.ao e.word.toNat).to-10)).toNat) (ab x.ao e.word.toNat) x.time),seen:=x.seen.set ((ab x.ao e.word.toNat).to-10).toNat (hP (c4 (ab x.calls (bW x.calls ((ab x.ao e.word.toNat).to-10)).toNat) (ab x.ao e.word.toNat) x.time))},true):=by rw[rH ae,if_neg (by rw[hk];decide),if_pos oP];unfold mn;dsimp only;rw[if_neg (by omega),if_pos aL]
      refine hs.cP u [0,1,2,3,4] rfl (.cons (.t rfl) .nil) trivial (by rw[hR];rfl) (by rw[hR];rfl)
     ·simp only[B] at aL
      refine az fun I a w hs=>?_
      refine nn<|wp_ret ?_
      have hR:gX x e=({x with ao:=fY x e,calls:=x.calls.set (bW x.calls ((ab x.ao e.word.toNat).to-10)).toNat (c4 (ab x.calls (bW x.calls ((ab x.ao e.word.toNat).to-10)).toNat) (ab x.ao e.word.toNat) x.time)},true):=by rw[rH ae,if_neg (by rw[hk];decide),if_pos oP];unfold mn;dsimp only;rw[if_neg (by omega),if_neg (by omega)]
      refine hs.cP u [0,1,2,3,4] rfl (.cons (.t rfl) .nil) trivial (by rw[hR];rfl) (by rw[hR];rfl)
    ·simp only[B] at aI
     refine az fun I a w hs=>?_
     refine nn<|wp_ret ?_
     have hR:gX x e=({x with ao:=fY x e},true):=by rw[rH ae,if_neg (by rw[hk];decide),if_pos oP];unfold mn;dsimp only;rw[if_pos (by omega)]
     refine hs.cP u [0,1,2,3,4] rfl (.cons (.t rfl) .nil) trivial (by rw[hR];rfl) (by rw[hR];rfl)
end Go.Proofs.YtoeioeimmfpefaaGreat
