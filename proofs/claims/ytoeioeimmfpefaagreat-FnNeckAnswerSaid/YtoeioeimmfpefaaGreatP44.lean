/- Part 44: rules of the proofs, contracts of functions, plain facts. -/
import Derived.Test.YtoeioeimmfpefaaGreatP43
set_option linter.unusedVariables false
set_option linter.unusedSimpArgs false
set_option maxRecDepth 100000
set_option maxHeartbeats 4000000
namespace Go.Proofs.YtoeioeimmfpefaaGreat
open Go Go.RowKit
attribute [local irreducible] wpList Code.wp Ok
def fh (x:be) (e:Ev):be×Bool:=
 if e.kind=1∨e.kind=2∨e.kind=3 then ia x e
 else if e.kind=4∨e.kind=5 then gX x e
 else if aQ e.kind 6 9&&cJ e.at_ then eQ x e
 else(x,false)
theorem Lu (w:be) (e:Ev):ei w e=fh {w with time:=w.time+1} e:=rfl
theorem Wj {x:be} {e:Ev} (h:e.kind=1):fh x e=jt x e:=by unfold fh ia;rw[if_pos (.inl h),if_pos h]
theorem Wk {x:be} {e:Ev} (h:e.kind=2∨e.kind=3) (hi:bW x.calls e.aC<0):fh x e=(x,false):=by unfold fh ia;rw[if_pos (.inr h),if_neg (by omega)];dsimp only;rw[if_pos hi]
theorem Wl {x:be} {e:Ev} (h:e.kind=2) (hi:¬bW x.calls e.aC<0):fh x e=({x with ao:=dQ x.ao (iv (ab x.calls (bW x.calls e.aC).toNat))},true):=by
 unfold fh ia;rw[if_pos (.inr (.inl h)),if_neg (by omega)];dsimp only;rw[if_neg hi,if_neg (by omega)]
theorem Wm {x:be} {e:Ev} (h:e.kind=3) (hi:¬bW x.calls e.aC<0):fh x e=({x with calls:=x.calls.set (bW x.calls e.aC).toNat {ab x.calls (bW x.calls e.aC).toNat with over:=true}},true):=by
 unfold fh ia;rw[if_pos (.inr (.inr h)),if_neg (by omega)];dsimp only;rw[if_neg hi,if_pos h]
theorem Ef {x:be} {e:Ev} (h:e.kind=4∨e.kind=5):fh x e=gX x e:=by unfold fh;rw[if_neg (by omega),if_pos h]
theorem Wn {x:be} {e:Ev} (h1:¬e.kind=1) (h2:¬(e.kind=2∨e.kind=3)) (h4:¬e.kind=4) (h5:¬e.kind=5) (h:(aQ e.kind 6 9&&cJ e.at_)=false):fh x e=(x,false):=by
 unfold fh;rw[if_neg (by omega),if_neg (by omega),h];rfl
theorem uY {x:be} {e:Ev} (h:(aQ e.kind 6 9&&cJ e.at_)=true):fh x e=eQ x e:=by
 have h2:=h
 simp only[aQ,Bool.and_eq_true,decide_eq_true_eq] at h2
 unfold fh;rw[if_neg (by omega),if_neg (by omega),if_pos h]
theorem Wo {x:be} {e:Ev} (h:((ab x.au e.at_.toNat).up==(e.kind==7))=true):(eQ x e).2=false:=by
 unfold eQ
 dsimp only
 by_cases h7:e.kind=7
 ·rw[if_pos h7];rw[h7] at h;simpa using h
 ·have hu:(ab x.au e.at_.toNat).up=false:=by rw[show(e.kind==7)=false by simpa using h7] at h;simpa using h
  rw[if_neg h7]
  split
  ·exact hu
  ·split
   ·exact hu
   ·rw[show kR (ab x.au e.at_.toNat) e.slot=false by unfold kR;rw[hu];rfl];rfl
theorem Lv {x:be} {e:Ev} (h:((ab x.au e.at_.toNat).up==(e.kind==7))=false) (h7:¬e.kind=7):(ab x.au e.at_.toNat).up=true:=by
 rw[show(e.kind==7)=false by simpa using h7] at h;simpa using h
theorem Wp {x:be} {e:Ev} (h:((ab x.au e.at_.toNat).up==(e.kind==7))=false) (h7:e.kind=7):(ab x.au e.at_.toNat).up=false:=by
 rw[h7] at h;simpa using h
theorem Wq {x:be} {e:Ev} (h:((ab x.au e.at_.toNat).up==(e.kind==7))=false) (hk:e.kind=6):eQ x e=({x with au:=x.au.set e.at_.toNat (nS (ab x.au e.at_.toNat))},true):=by
 unfold eQ;dsimp only;rw[if_neg (by omega),if_pos hk,Lv h (by omega)]
theorem Wr {x:be} {e:Ev} (h:((ab x.au e.at_.toNat).up==(e.kind==7))=false) (hk:e.kind=7):eQ x e=({x with au:=x.au.set e.at_.toNat (nT (ab x.au e.at_.toNat))},true):=by
 unfold eQ;dsimp only;rw[if_pos hk,Wp h hk];rfl
theorem Ws {x:be} {e:Ev} (h:((ab x.au e.at_.toNat).up==(e.kind==7))=false) (hk:e.kind=8):eQ x e=({x with ao:=dQ x.ao (js (ab x.au e.at_.toNat))},true):=by
 unfold eQ;dsimp only;rw[if_neg (by omega),if_neg (by omega),if_pos hk,Lv h (by omega)]
theorem Wt {x:be} {e:Ev} (hk:e.kind=9) (hm:(dP (ab x.au e.at_.toNat) e.slot).2.2=true):eQ x e=({x with au:=x.au.set e.at_.toNat (dP (ab x.au e.at_.toNat) e.slot).1,ao:=dQ x.ao [(dP (ab x.au e.at_.toNat) e.slot).2.1]},true):=by
 have h:=z4 hm
 rw[D7 h]
 unfold eQ;dsimp only;rw[if_neg (by omega),if_neg (by omega),if_neg (by omega),if_pos h]
theorem Wu {x:be} {e:Ev} (hk:e.kind=9) (hm:(dP (ab x.au e.at_.toNat) e.slot).2.2=false):eQ x e=(x,false):=by
 unfold eQ;dsimp only;rw[if_neg (by omega),if_neg (by omega),if_neg (by omega),if_neg (by rw[D6 hm];simp)]
theorem Wv {s:Server} {slot:Int} (hg:bw s) (hm:(dP s slot).2.2=true):∀y∈[(dP s slot).2.1],iV y:=by
 have h:=z4 hm
 have hp:=w6 h
 intro y hy
 obtain rfl:=List.mem_singleton.1 hy
 rw[D7 h]
 exact sX (C5 (zj hg h) hp.2.1 hp.2.2.1)
theorem Lw {q:Call} {t:Int} (h:dK q t):(iv q).length≤1048576∧∀y∈iv q,iV y:=by
 refine⟨?_,fun y hy=>sX (Jh h y hy)⟩
 cases hw:gG q
 ·unfold iv;rw[hw];exact Nat.zero_le _
 ·rw[←KB hw (Nat.le_refl _),DL q _ (Nat.le_refl _)]
  have:=DK (q:=q)
  have:=h.lens
  omega
set_option maxHeartbeats 4000000 in
theorem Ww (b:Nat) (x:be) (e:Ev) (s r q z:Value) (hg:cK x) (ht:x.time≤1000000):
 cL Tryz.prog 87 [AV.val (.pointer (some ⟨b,0,none⟩)),e.av] (x.full b s r q z) (fun _:Value×Value=>True) (fun u=>bif (fh x e).2 then(fh x e).1.full b s u.1 u.2 z else[]) (fun _=>AV.bool (fh x e).2):=by
 refine cL.intro 148 Tryz.func87 rfl Tryz.ntmps87 rfl (by kernel_rfl) (fun W I a hs=>?_)
 change St _ _ [Own.box b 28 [AV.int x.time,AV.val s,AV.val r,AV.val q,AV.val z],Own.row s 44 7 (x.au.map Server.cells),Own.row r 74 15 (x.ao.map aD.cells),Own.row q 51 13 (x.calls.map Call.cells),Own.row z 42 1 (x.seen.map ey)] _ _ _ at hs
 have m9:=hg.lens
 have z1:=hg.seen
 have uV:=hg.time
 have ix:=hg.ao
 have pM:=hg.au
 have xm:(List.map aD.cells x.ao).length≤60:=by rw[List.length_map];exact ix
 obtain⟨bS,cS,rfl⟩:=hs.g8 1 rfl (by rw[List.length_map];omega)
 refine cx fun I a w hs=>?_
 refine nn ?_
 refine hs.cd (fun ae=>?_) fun ae=>?_
 ·try simp only[B] at ae
  refine ai fun I a w hs=>?_
  refine hs.cW [0,1,2,3,4] (Wd b x e (.slice (some ⟨bS,0,none⟩) (x.au.map Server.cells).length cS) r q z hg ht) (aw .tt (aw .tt aP)) rfl (by decide) rfl fun u I a w Aa hs=>?_
  refine hs.s fun hs=>nn<|wp_ret<|bh<|aE ?_
  have hR:fh x e=jt x e:=Wj ae
  cases hB:(jt x e).2
  ·refine hs.cP (r,r) [] rfl (.cons (lg.t rfl) .nil) trivial (by rw[hR,hB];rfl) (by rw[hR];rfl)
  ·rw[hB] at hs;refine hs.cP (r,u) [0,1,2,3,4] rfl (.cons (lg.t rfl) .nil) trivial (by rw[hR,hB];rfl) (by rw[hR,hB];rfl)
 ·try simp only[B] at ae
  refine St.cut (σ:=Bool) (17::18::19::[]) ⟨fun g=>[(17,AV.bool g)],fun g=>[Own.box b 28 [AV.int x.time,AV.val (.slice (some ⟨bS,0,none⟩) (x.au.map Server.cells).length cS),AV.val r,AV.val q,AV.val z],Own.row (.slice (some ⟨bS,0,none⟩) (x.au.map Server.cells).length cS) 44 7 ((x.au).map Server.cells),Own.row r 74 15 ((x.ao).map aD.cells),Own.row q 51 13 ((x.calls).map Call.cells),Own.row z 42 1 ((x.seen).map ey)],fun g=>g=decide (e.kind=2∨e.kind=3)⟩ hs ?n6 ?n7
  case n6=>
   refine ai fun I a w hs=>?_
   refine nn ?_
   refine hs.cd (fun ah=>?_) fun ah=>?_
   ·try simp only[B] at ah
    refine wp_skip<|aG ?_
    exact hs.me (e.kind==2) (by first|(show(e.kind==2)=_;rw[Bool.eq_iff_iff];simp;omega)|(show(e.kind==3)=_;rw[Bool.eq_iff_iff];simp;omega))
   ·try simp only[B] at ah
    refine ai fun I a w hs=>?_
    refine nn ?_
    exact hs.me (e.kind==3) (by first|(show(e.kind==2)=_;rw[Bool.eq_iff_iff];simp;omega)|(show(e.kind==3)=_;rw[Bool.eq_iff_iff];simp;omega))
  case n7=>
   rintro g I a w al hs
   obtain rfl:g=decide (e.kind=2∨e.kind=3):=al
   refine hs.cd (fun aj=>?_) fun aj=>?_
   ·try simp only[B] at aj
    refine aB fun I a w hs=>?_
    refine hs.o (yi (xs:=[AV.val (.pointer (some ⟨b,0,none⟩)),AV.int e.aC]) (ow:=[AV.ptr [AV.int x.time,AV.val (.slice (some ⟨bS,0,none⟩) (x.au.map Server.cells).length cS),AV.val r,bE x.calls,AV.val z],AV.int e.aC]) (Ec x.calls x.time (.slice (some ⟨bS,0,none⟩) (x.au.map Server.cells).length cS) r z e.aC) (aw .tt (aw .tt aP)) (fun c I a w hs=>by obtain⟨I,hs⟩:=hs.fu 3 3 0;obtain⟨I,hs⟩:=hs.fb 0 0;exact⟨_,_,_,hs,rfl,rfl,trivial⟩)) fun hs=>?_
    refine aB fun I a w hs=>?_
    refine nn ?_
    refine hs.cd (fun aI=>?_) fun aI=>?_
    ·simp only[B] at aI
     refine az fun I a w hs=>?_
     refine nn<|wp_ret<|aE<|bh<|aE ?_
     have hR:fh x e=(x,false):=Wk aj aI
     refine hs.cP (r,r) [] rfl (.cons (.t rfl) .nil) trivial (by rw[hR];rfl) (by rw[hR];rfl)
    ·simp only[B] at aI;obtain⟨h1,h2,h3⟩:=nW (show 0≤(bW x.calls e.aC) by omega)
     obtain⟨bC,cC,rfl⟩:=hs.g8 3 rfl (by rw[List.length_map];omega)
     refine aB fun I a w hs=>?_
     refine nn ?_
     refine hs.cd (fun aL=>?_) fun aL=>?_
     ·try simp only[B] at aL
      refine cx fun I a w hs=>?_
      refine hs.o (gv iD cy .tt .tt (fun _=>by rw[List.length_map];omega)) fun hs=>?_
      refine hs.o (oj 3 cy .tt rfl (fun _=>by exact ek (by omega)) rfl) fun hs=>?_
      refine hs.o (.c1 (TO (ab x.calls (bW x.calls e.aC).toNat) x.time (hg.call h1) ht)) fun hs=>?_
      refine hs.cW [0,2] (z8 b x.time (.slice (some ⟨bS,0,none⟩) (x.au.map Server.cells).length cS) r (.slice (some ⟨bC,0,none⟩) (x.calls.map Call.cells).length cC) z x.ao (iv (ab x.calls (bW x.calls e.aC).toNat)) ix (Lw (hg.call h1)).1 (Lw (hg.call h1)).2) (aw .tt (aw .r aP)) rfl (by decide) rfl fun u2 I a w xj hs=>?_
      refine az fun I a w hs=>?_
      refine nn<|wp_ret<|bh<|aE ?_
      have hR:fh x e=({x with ao:=dQ x.ao (iv (ab x.calls (bW x.calls e.aC).toNat))},true):=Wl aL (by omega)
      refine hs.cP (u2,(.slice (some ⟨bC,0,none⟩) (x.calls.map Call.cells).length cC)) [0,1,2,3,4] rfl (.cons (.t rfl) .nil) trivial (by rw[hR];rfl) (by rw[hR];rfl)
     ·try simp only[B] at aL
      refine aW fun I a w hs=>?_
      refine hs.o (gv iD cy .tt .tt (fun _=>by rw[List.length_map];omega)) fun hs=>?_
      refine hs.o .fv fun hs=>?_
      refine hs.tM (j:=8) 3 v5 .tt .c (by first|exact iY rfl|exact jj|exact jk|exact jl|assumption) rfl (by exact ek (by omega)) rfl rfl fun a w hs=>?_
      refine wpList_nil ?_
      have e9:∀y,y=Call.cells {(ab x.calls (bW x.calls e.aC).toNat) with over:=true}→(List.map Call.cells x.calls).set (bW x.calls e.aC).toNat y=List.map Call.cells (x.calls.set (bW x.calls e.aC).toNat {(ab x.calls (bW x.calls e.aC).toNat) with over:=true}):=fun y hy=>by rw[hy,List.map_set]
      rw[e9] at hs
      rotate_left
      ·rfl
      refine az fun I a w hs=>?_
      refine nn<|wp_ret<|bh<|aE ?_
      have hR:fh x e=({x with calls:=x.calls.set (bW x.calls e.aC).toNat {(ab x.calls (bW x.calls e.aC).toNat) with over:=true}},true):=Wm (by omega) (by omega)
      refine hs.cP (r,(.slice (some ⟨bC,0,none⟩) (x.calls.map Call.cells).length cC)) [0,1,2,3,4] rfl (.cons (.t rfl) .nil) trivial (by rw[hR];rfl) (by rw[hR];rfl)
   ·try simp only[B] at aj
    refine ai fun I a w hs=>?_
    refine nn ?_
    refine hs.cd (fun bf=>?_) fun bf=>?_
    ·try simp only[B] at bf
     refine ai fun I a w hs=>?_
     refine hs.cW [0,1,2,3,4] (Wh b x e (.slice (some ⟨bS,0,none⟩) (x.au.map Server.cells).length cS) r q z hg ht bf) (aw .tt (aw .tt aP)) rfl (by decide) rfl fun u I a w adD hs=>?_
     refine hs.s fun hs=>nn<|wp_ret<|bh<|aE ?_
     have hR:fh x e=gX x e:=Ef (.inl bf)
     cases hB:(gX x e).2
     ·refine hs.cP (r,r) [] rfl (.cons (lg.t rfl) .nil) trivial (by rw[hR,hB];rfl) (by rw[hR];rfl)
     ·rw[hB] at hs;refine hs.cP (u,q) [0,1,2,3,4] rfl (.cons (lg.t rfl) .nil) trivial (by rw[hR,hB];rfl) (by rw[hR,hB];rfl)
    ·try simp only[B] at bf
     refine ai fun I a w hs=>?_
     refine nn ?_
     refine hs.cd (fun aX=>?_) fun aX=>?_
     ·try simp only[B] at aX
      refine wp_seq<|wp_seq<|hs.dk ?_
      refine fP ?_
      refine .o (ni 2 dh .tt rfl) ?_
      refine bz ?_
      refine .o (.cl (hC ..)) ?_
      refine bz ?_
      refine .nil ?_
      intro I a w hs
      refine aG ?_
      refine hs.cd (fun bU=>?_) fun bU=>?_
      ·rw[List.length_map] at bU;replace bU:=nt bU
       refine az fun I a w hs=>?_
       refine nn<|wp_ret<|aE<|bh<|aE ?_
       have hR:fh x e=(x,false):=by rw[Ef (.inr aX),z5 bU]
       refine hs.cP (r,r) [] rfl (.cons (.t rfl) .nil) trivial (by rw[hR];rfl) (by rw[hR];rfl)
      ·rw[List.length_map] at bU;replace bU:=nf bU;have pG:=bU;simp only[aQ,Bool.and_eq_true,decide_eq_true_eq] at pG
       refine wp_skip<|aG<|wp_seq ?_
       refine hs.eT [([],none),([],none),([],none),([],none),([0],none),([],none),([],none),([],none),([],none),([],none),([2],some (2,[73])),([],none),([],none),([0],some (0,[73]))] (by kernel_rfl) (by kernel_rfl) rfl ?_
       refine de ?_
       refine .r [0] (.lb 0) ?_
       refine eK ?_
       refine aV.KV 2 rfl rfl (Ls r x.ao e.word (by omega) (by omega) (by omega)) (aw .r (aw .tt (aw .tt aP))) ?_
       refine cq ?_
       refine aV.x6 0 rfl BU .tt rfl rfl<|.nil ?_
       intro I a w hs
       change St _ _ [Own.box b 28 [AV.int x.time,AV.val (.slice (some ⟨bS,0,none⟩) (x.au.map Server.cells).length cS),AV.val (a.tmps.getD 73 undef),AV.val q,AV.val z],Own.row (.slice (some ⟨bS,0,none⟩) (x.au.map Server.cells).length cS) 44 7 ((x.au).map Server.cells),Own.row (a.tmps.getD 73 undef) 74 15 ((x.ao.take e.word.toNat++x.ao.drop (e.word.toNat+1)).map aD.cells),Own.row q 51 13 ((x.calls).map Call.cells),Own.row z 42 1 ((x.seen).map ey)] _ _ _ at hs
       generalize a.tmps.getD 73 undef=Wx at hs
       refine az fun I a w hs=>?_
       refine nn<|wp_ret<|bh<|aE ?_
       have hR:fh x e=({x with ao:=x.ao.take e.word.toNat++x.ao.drop (e.word.toNat+1)},true):=by rw[Ef (.inr aX),rH bU,if_pos aX];unfold fY;rw[if_pos (.inl aX)]
       refine hs.cP (Wx,q) [0,1,2,3,4] rfl (.cons (.t rfl) .nil) trivial (by rw[hR];rfl) (by rw[hR];rfl)
     ·try simp only[B] at aX
      refine ai fun I a w hs=>?_
      refine hs.o (.cl (hC ..)) fun hs=>?_
      refine aJ fun I a w hs=>?_
      refine hs.q .F (.cl (pU ..)) fun hs=>?_
      refine ai fun I a w hs=>?_
      refine nn ?_
      refine hs.cd (fun cQ=>?_) fun cQ=>?_
      ·rw[←Bool.not_and] at cQ;replace cQ:=nt cQ
       refine az fun I a w hs=>?_
       refine nn<|wp_ret<|aE ?_
       have hR:fh x e=(x,false):=Wn ae aj bf aX cQ
       refine hs.cP (r,r) [] rfl (.cons (.t rfl) .nil) trivial (by rw[hR];rfl) (by rw[hR];rfl)
      ·rw[←Bool.not_and] at cQ;replace cQ:=nf cQ;have Lx:=cQ;simp only[aQ,Bool.and_eq_true,decide_eq_true_eq] at Lx;have uR:=kS.1 Lx.2;have ib:=(hg.site e.at_.toNat (by omega)).2
       refine wp_skip<|aG<|wp_seq<|hs.dk ?_
       refine fP ?_
       refine .o (gv kt ba .tt .tt (fun _=>by rw[List.length_map];omega)) ?_
       refine bz ?_
       refine .nil ?_
       intro I a w hs
       refine aG<|wp_seq<|wp_seq<|hs.dk ?_
       refine du ?_
       refine .o (Na 1 v5 .tt rfl (fun _=>by exact ek (by omega)) rfl rfl rfl) ?_
       refine du ?_
       refine .o (FE .tt .tt wa)<|.nil ?_
       intro I a w hs
       refine aG ?_
       refine hs.cd (fun fq=>?_) fun fq=>?_
       ·skip
        refine az fun I a w hs=>?_
        refine nn<|wp_ret<|aE ?_
        have hR:(fh x e).2=false:=by rw[uY cQ];exact Wo fq
        refine hs.cP (r,r) [] rfl (.cons (.t rfl) .nil) trivial (by rw[hR];rfl) (by rw[hR];rfl)
       ·skip
        refine aJ fun I a w hs=>?_
        refine nn ?_
        refine hs.cd (fun fK=>?_) fun fK=>?_
        ·try simp only[B] at fK
         refine aB fun I a w hs=>?_
         refine hs.o (oj 1 ba .tt rfl (fun _=>by exact ek (by omega)) rfl) fun hs=>?_
         refine hs.o (.c1 (TA (ab x.au e.at_.toNat) ib)) fun hs=>?_
         refine hs.o .nl fun hs=>?_
         refine hs.jx 1 ba .tt .tt rfl (by exact ek (by omega)) rfl rfl fun a w hs=>?_
         refine wpList_nil ?_
         have e9:∀y,y=Server.cells (nS (ab x.au e.at_.toNat))→(List.map Server.cells x.au).set e.at_.toNat y=List.map Server.cells (x.au.set e.at_.toNat (nS (ab x.au e.at_.toNat))):=fun y hy=>by rw[hy,List.map_set]
         rw[e9] at hs
         rotate_left
         ·rfl
         refine az fun I a w hs=>?_
         refine nn<|wp_ret ?_
         have hR:fh x e=({x with au:=x.au.set e.at_.toNat (nS (ab x.au e.at_.toNat))},true):=by rw[uY cQ,Wq fq fK]
         refine hs.cP (r,q) [0,1,2,3,4] rfl (.cons (.t rfl) .nil) trivial (by rw[hR];rfl) (by rw[hR];rfl)
        ·try simp only[B] at fK
         refine ai fun I a w hs=>?_
         refine nn ?_
         refine hs.cd (fun uZ=>?_) fun uZ=>?_
         ·try simp only[B] at uZ
          refine aB fun I a w hs=>?_
          refine hs.o (oj 1 ba .tt rfl (fun _=>by exact ek (by omega)) rfl) fun hs=>?_
          refine hs.o (.c1 (Tz (ab x.au e.at_.toNat) ib)) fun hs=>?_
          refine hs.o .nl fun hs=>?_
          refine hs.jx 1 ba .tt .tt rfl (by exact ek (by omega)) rfl rfl fun a w hs=>?_
          refine wpList_nil ?_
          have e9:∀y,y=Server.cells (nT (ab x.au e.at_.toNat))→(List.map Server.cells x.au).set e.at_.toNat y=List.map Server.cells (x.au.set e.at_.toNat (nT (ab x.au e.at_.toNat))):=fun y hy=>by rw[hy,List.map_set]
          rw[e9] at hs
          rotate_left
          ·rfl
          refine az fun I a w hs=>?_
          refine nn<|wp_ret ?_
          have hR:fh x e=({x with au:=x.au.set e.at_.toNat (nT (ab x.au e.at_.toNat))},true):=by rw[uY cQ,Wr fq uZ]
          refine hs.cP (r,q) [0,1,2,3,4] rfl (.cons (.t rfl) .nil) trivial (by rw[hR];rfl) (by rw[hR];rfl)
         ·try simp only[B] at uZ
          refine ai fun I a w hs=>?_
          refine nn ?_
          refine hs.cd (fun u5=>?_) fun u5=>?_
          ·try simp only[B] at u5
           refine aB fun I a w hs=>?_
           refine hs.o (oj 1 ba .tt rfl (fun _=>by exact ek (by omega)) rfl) fun hs=>?_
           refine hs.o (.c1 (Uk (ab x.au e.at_.toNat) ib)) fun hs=>?_
           refine hs.cW [0,2] (z8 b x.time (.slice (some ⟨bS,0,none⟩) (x.au.map Server.cells).length cS) r q z x.ao (js (ab x.au e.at_.toNat)) ix (by have:=J3 ib;omega) (fun y hy=>sX (C7 ib y hy))) (aw .tt (aw .r aP)) rfl (by decide) rfl fun u2 I a w adE hs=>?_
           refine az fun I a w hs=>?_
           refine nn<|wp_ret ?_
           have hR:fh x e=({x with ao:=dQ x.ao (js (ab x.au e.at_.toNat))},true):=by rw[uY cQ,Ws fq u5]
           refine hs.cP (u2,q) [0,1,2,3,4] rfl (.cons (.t rfl) .nil) trivial (by rw[hR];rfl) (by rw[hR];rfl)
          ·try simp only[B] at u5
           refine ai fun I a w hs=>?_
           refine nn ?_
           refine hs.cd (fun tp=>?_) fun tp=>?_
           ·try simp only[B] at tp
            refine wp_seq ?_
            have hs:=hs.gN
            have hs:=hs.gN
            refine hs.eT [([],none),([],none),([1],none),([],none),([],none),([],none),([],none),([],none),([],none),([],none),([5],some (5,[7])),([6],some (6,[8])),([5],some (5,[7])),([6],some (6,[8])),([],none)] (by kernel_rfl) (by kernel_rfl) rfl ?_
            refine cq ?_
            refine .r [1] (oj 1 ba .tt rfl (fun _=>by exact ek (by omega)) rfl) ?_
            refine cq ?_
            refine .o (.c2 (TB (ab x.au e.at_.toNat) e.slot ib)) ?_
            refine de ?_
            refine aV.alloc 5 rfl rfl ba df<|aV.alloc 6 rfl rfl cj dB<|aV.pL 5 rfl ba rfl .tt rfl rfl<|aV.pL 6 rfl cj rfl .tt rfl rfl ?_
            refine bz ?_
            refine .nil ?_
            intro I a w hs
            obtain⟨b7,hs⟩:=hs.nw (d:=7) 5 rfl rfl
            obtain⟨I,hs⟩:=hs.fb 5 7
            obtain⟨b8,hs⟩:=hs.nw (d:=8) 6 rfl rfl
            obtain⟨I,hs⟩:=hs.fb 6 8
            refine ai fun I a w hs=>?_
            refine nn ?_
            refine hs.cd (fun oY=>?_) fun oY=>?_
            ·replace oY:=nt oY
             refine az fun I a w hs=>?_
             refine nn<|wp_ret<|aE<|bh<|aE ?_
             have hR:fh x e=(x,false):=by rw[uY cQ,Wu tp oY]
             refine hs.cP (r,r) [] rfl (.cons (.t rfl) .nil) trivial (by rw[hR];rfl) (by rw[hR];rfl)
            ·replace oY:=nf oY
             refine aB fun I a w hs=>?_
             refine hs.jx 1 ba .tt .tt rfl (by exact ek (by omega)) rfl rfl fun a w hs=>?_
             refine wpList_nil ?_
             have e9:∀y,y=Server.cells (dP (ab x.au e.at_.toNat) e.slot).1→(List.map Server.cells x.au).set e.at_.toNat y=List.map Server.cells (x.au.set e.at_.toNat (dP (ab x.au e.at_.toNat) e.slot).1):=fun y hy=>by rw[hy,List.map_set]
             rw[e9] at hs
             rotate_left
             ·rfl
             refine ai fun I a w hs=>?_
             refine hs.o (.li [(dP (ab x.au e.at_.toNat) e.slot).2.1.cells] fF (.u .nil)) fun hs=>?_
             refine hs.cW [0,2] (z8 b x.time (.slice (some ⟨bS,0,none⟩) (x.au.map Server.cells).length cS) r q z x.ao [(dP (ab x.au e.at_.toNat) e.slot).2.1] ix (by simp) (Wv ib oY)) (aw .tt (aw .r aP)) rfl (by decide) rfl fun u2 I a w adF hs=>?_
             refine az fun I a w hs=>?_
             refine nn<|wp_ret ?_
             have hR:fh x e=({x with au:=x.au.set e.at_.toNat (dP (ab x.au e.at_.toNat) e.slot).1,ao:=dQ x.ao [(dP (ab x.au e.at_.toNat) e.slot).2.1]},true):=by rw[uY cQ,Wt tp oY]
             refine hs.cP (u2,q) [0,1,2,3,4] rfl (.cons (.t rfl) .nil) trivial (by rw[hR];rfl) (by rw[hR];rfl)
           ·try simp only[B] at tp
            refine az fun I a w hs=>?_
            refine nn<|wp_ret ?_
            exfalso;omega
end Go.Proofs.YtoeioeimmfpefaaGreat
