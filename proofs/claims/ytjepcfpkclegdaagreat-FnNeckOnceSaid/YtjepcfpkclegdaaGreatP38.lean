/- Part 38: contracts of functions, plain facts. -/
import Derived.Test.YtjepcfpkclegdaaGreatP34
set_option linter.unusedVariables false
set_option linter.unusedSimpArgs false
set_option maxRecDepth 100000
set_option maxHeartbeats 4000000
namespace Go.Proofs.YtjepcfpkclegdaaGreat
open Go Go.RowKit
attribute [local irreducible] wpList Code.wp Ok
theorem agO (b:Nat) (x:aE) (e:Ev) (s r q z:Value) (hg:cx x) (ht:x.time<=1000000):
 c7 Tryz.prog 69 [AV.val (.pointer (some ⟨b,0,none⟩)),e.av] (x.full b s r q z) (λ_:Value×Value=>True) (λu=>bif (gF x e).2 then(gF x e).1.full b s u.1 u.2 z else[]) (λ_=>AV.bool (gF x e).2):=by
 refine c7.intro 148 Tryz.func69 rfl Tryz.ntmps69 rfl (by kernel_rfl) (λW I a U=>?_)
 change St _ _ [Own.box b 30 [AV.int x.time,AV.val s,AV.val r,AV.val q,AV.val z],Own.row s 61 7 (x.ax.map Server.cells),Own.row r 70 15 (x.ar.map aC.cells),Own.row q 39 13 (x.calls.map Call.cells),Own.row z 34 1 (x.seen.map fE)] _ _ _ at U
 have oH:=hg.lens
 have za:=hg.seen
 have zb:=hg.time
 have ku:=hg.ar
 have lD:=hg.ax
 have D5:(List.map aC.cells x.ar).length<=60:=by rw[List.length_map];exact ku
 obtain⟨bS,cS,rfl⟩:=U.j7 1 rfl (by rw[List.length_map];omega)
 refine jj λI a w U=>?_
 refine cz (λae=>?_) λae=>?_
 ·refine aF λI a w U=>?_
  refine U.cG [0,1,2,3,4] (adr b x e (.slice (some ⟨bS,0,none⟩) (x.ax.map Server.cells).length cS) r q z hg ht) (aw .tt (aw .tt aL)) rfl (by decide) rfl λu I a w Bx U=>?_
  refine U.s λU=>nn<|wp_ret<|vN<|xK ?_
  have hR:gF x e=kQ x e:=abN ae
  cases hB:(kQ x e).2
  ·refine U.de (r,r) [] rfl (.cons (ly.t rfl) .nil) trivial (by rw[hR,hB];rfl) (by rw[hR];rfl)
  ·rw[hB] at U;refine U.de (r,u) [0,1,2,3,4] rfl (.cons (ly.t rfl) .nil) trivial (by rw[hR,hB];rfl) (by rw[hR,hB];rfl)
 ·refine St.cut (σ:=Bool) (17::18::19::[]) ⟨λg=>[(17,AV.bool g)],λg=>[Own.box b 30 [AV.int x.time,AV.val (.slice (some ⟨bS,0,none⟩) (x.ax.map Server.cells).length cS),AV.val r,AV.val q,AV.val z],Own.row (.slice (some ⟨bS,0,none⟩) (x.ax.map Server.cells).length cS) 61 7 ((x.ax).map Server.cells),Own.row r 70 15 ((x.ar).map aC.cells),Own.row q 39 13 ((x.calls).map Call.cells),Own.row z 34 1 ((x.seen).map fE)],λg=>g=decide (e.kind=2\/e.kind=3)⟩ U ?rf ?rh
  case rf=>
   refine aA λI a w U=>?_
   refine cz (λah=>?_) λah=>?_
   ·refine zt ?_
    exact U.me (e.kind==2) (by first|(show(e.kind==2)=_;rw[Bool.eq_iff_iff];simp;omega)|(show(e.kind==3)=_;rw[Bool.eq_iff_iff];simp;omega))
   ·refine aA λI a w U=>?_
    exact U.me (e.kind==3) (by first|(show(e.kind==2)=_;rw[Bool.eq_iff_iff];simp;omega)|(show(e.kind==3)=_;rw[Bool.eq_iff_iff];simp;omega))
  case rh=>
   rintro g I a w aj U
   obtain rfl:g=decide (e.kind=2\/e.kind=3):=aj
   refine cz (λal=>?_) λal=>?_
   ·refine bk λI a w U=>?_
    refine U.o (Ci (xs:=[AV.val (.pointer (some ⟨b,0,none⟩)),AV.int e.an]) (rM:=[AV.ptr [AV.int x.time,AV.val (.slice (some ⟨bS,0,none⟩) (x.ax.map Server.cells).length cS),AV.val r,bK x.calls,AV.val z],AV.int e.an]) (Hn x.calls x.time (.slice (some ⟨bS,0,none⟩) (x.ax.map Server.cells).length cS) r z e.an) (aw .tt (aw .tt aL)) (λc I a w U=>by obtain⟨I,U⟩:=U.fu 3 3 0;obtain⟨I,U⟩:=U.fb 0 0;exact⟨_,_,_,U,rfl,rfl,trivial⟩)) λU=>?_
    refine aI λI a w U=>?_
    refine cz (λaH=>?_) λaH=>?_
    ·refine ai λI a w U=>?_
     have hR:gF x e=(x,false):=abO al aH
     refine U.de (r,r) [] rfl (.cons (.t rfl) .nil) trivial (by rw[hR];rfl) (by rw[hR];rfl)
    ·obtain⟨h1,h2,h3⟩:=qu (show 0<=(cq x.calls e.an) by omega)
     obtain⟨bC,cC,rfl⟩:=U.j7 3 rfl (by rw[List.length_map];omega)
     refine aI λI a w U=>?_
     refine cz (λaM=>?_) λaM=>?_
     ·refine dD λI a w U=>?_
      refine U.o (jr mB dQ .tt .tt (λ_=>by rw[List.length_map];omega)) λU=>?_
      refine U.o (rA 3 dQ .tt rfl (λ_=>by exact fG (by omega)) rfl) λU=>?_
      refine U.o (.c1 (adf (ab x.calls (cq x.calls e.an).toNat) x.time (hg.call h1) ht)) λU=>?_
      refine U.cG [0,2] (DG b x.time (.slice (some ⟨bS,0,none⟩) (x.ax.map Server.cells).length cS) r (.slice (some ⟨bC,0,none⟩) (x.calls.map Call.cells).length cC) z x.ar (jP (ab x.calls (cq x.calls e.an).toNat)) ku (Rc (hg.call h1)).1 (Rc (hg.call h1)).2) (aw .tt (aw .r aL)) rfl (by decide) rfl λu2 I a w Bg U=>?_
      refine ai λI a w U=>?_
      have hR:gF x e=({x with ar:=eF x.ar (jP (ab x.calls (cq x.calls e.an).toNat))},true):=abP aM (by omega)
      refine U.de (u2,(.slice (some ⟨bC,0,none⟩) (x.calls.map Call.cells).length cC)) [0,1,2,3,4] rfl (.cons (.t rfl) .nil) trivial (by rw[hR];rfl) (by rw[hR];rfl)
     ·refine bM λI a w U=>?_
      refine U.o (jr mB dQ .tt .tt (λ_=>by rw[List.length_map];omega)) λU=>?_
      refine U.o .fv λU=>?_
      refine U.zP (j:=8) 3 x4 .tt .c (by first|exact jR rfl|exact j0|exact j1|exact j6|assumption) rfl (by exact fG (by omega)) rfl rfl λa w U=>?_
      refine wpList_nil ?_
      have e9:∀y,y=Call.cells {(ab x.calls (cq x.calls e.an).toNat) with over:=true}->(List.map Call.cells x.calls).set (cq x.calls e.an).toNat y=List.map Call.cells (x.calls.set (cq x.calls e.an).toNat {(ab x.calls (cq x.calls e.an).toNat) with over:=true}):=λy hy=>by rw[hy,List.map_set]
      rw[e9] at U
      rotate_left
      ·rfl
      refine ai λI a w U=>?_
      have hR:gF x e=({x with calls:=x.calls.set (cq x.calls e.an).toNat {(ab x.calls (cq x.calls e.an).toNat) with over:=true}},true):=abQ (by omega) (by omega)
      refine U.de (r,(.slice (some ⟨bC,0,none⟩) (x.calls.map Call.cells).length cC)) [0,1,2,3,4] rfl (.cons (.t rfl) .nil) trivial (by rw[hR];rfl) (by rw[hR];rfl)
   ·refine aA λI a w U=>?_
    refine cz (λbh=>?_) λbh=>?_
    ·refine aF λI a w U=>?_
     refine U.cG [0,1,2,3,4] (aea b x e (.slice (some ⟨bS,0,none⟩) (x.ax.map Server.cells).length cS) r q z hg ht bh) (aw .tt (aw .tt aL)) rfl (by decide) rfl λu I a w amj U=>?_
     refine U.s λU=>nn<|wp_ret<|vN<|xK ?_
     have hR:gF x e=je x e:=Iz (.inl bh)
     cases hB:(je x e).2
     ·refine U.de (r,r) [] rfl (.cons (ly.t rfl) .nil) trivial (by rw[hR,hB];rfl) (by rw[hR];rfl)
     ·rw[hB] at U;refine U.de (u,q) [0,1,2,3,4] rfl (.cons (ly.t rfl) .nil) trivial (by rw[hR,hB];rfl) (by rw[hR,hB];rfl)
    ·refine aA λI a w U=>?_
     refine cz (λaZ=>?_) λaZ=>?_
     ·refine wp_seq<|wp_seq<|U.dk ?_
      refine fK ?_
      refine .o (rz 2 eU .tt rfl) ?_
      refine bn ?_
      refine .o (.cl (jv ..)) ?_
      refine bn ?_
      refine .nil ?_
      intro I a w U
      refine aY ?_
      refine U.cd (λbV=>?_) λbV=>?_
      ·rw[List.length_map] at bV;replace bV:=nt bV
       refine ai λI a w U=>?_
       have hR:gF x e=(x,false):=by rw[Iz (.inr aZ),DS bV]
       refine U.de (r,r) [] rfl (.cons (.t rfl) .nil) trivial (by rw[hR];rfl) (by rw[hR];rfl)
      ·rw[List.length_map] at bV;replace bV:=nf bV;have tb:=bV;simp only[aQ,Bool.and_eq_true,decide_eq_true_eq] at tb
       refine zt ?_
       refine U.eo [([],none),([],none),([],none),([],none),([0],none),([],none),([],none),([],none),([],none),([],none),([2],some (2,[73])),([],none),([],none),([0],some (0,[73]))] (by kernel_rfl) (by kernel_rfl) rfl ?_
       refine dq ?_
       refine .r [0] (.lb 0) ?_
       refine fi ?_
       refine aS.Mh 2 rfl rfl (PB r x.ar e.word (by omega) (by omega) (by omega)) (aw .r (aw .tt (aw .tt aL))) ?_
       refine bT ?_
       refine aS.B9 0 rfl FY .tt rfl rfl<|.nil ?_
       intro I a w U
       change St _ _ [Own.box b 30 [AV.int x.time,AV.val (.slice (some ⟨bS,0,none⟩) (x.ax.map Server.cells).length cS),AV.val (a.tmps.getD 73 undef),AV.val q,AV.val z],Own.row (.slice (some ⟨bS,0,none⟩) (x.ax.map Server.cells).length cS) 61 7 ((x.ax).map Server.cells),Own.row (a.tmps.getD 73 undef) 70 15 ((x.ar.take e.word.toNat++x.ar.drop (e.word.toNat+1)).map aC.cells),Own.row q 39 13 ((x.calls).map Call.cells),Own.row z 34 1 ((x.seen).map fE)] _ _ _ at U
       generalize a.tmps.getD 73 undef=v73 at U
       refine ai λI a w U=>?_
       have hR:gF x e=({x with ar:=x.ar.take e.word.toNat++x.ar.drop (e.word.toNat+1)},true):=by rw[Iz (.inr aZ),vy bV,if_pos aZ];unfold jc;rw[if_pos (.inl aZ)]
       refine U.de (v73,q) [0,1,2,3,4] rfl (.cons (.t rfl) .nil) trivial (by rw[hR];rfl) (by rw[hR];rfl)
     ·refine aF λI a w U=>?_
      refine U.o (.cl (jv ..)) λU=>?_
      refine bt λI a w U=>?_
      refine U.q .F (.cl (tG ..)) λU=>?_
      refine aA λI a w U=>?_
      refine U.cd (λcY=>?_) λcY=>?_
      ·rw[<-Bool.not_and] at cY;replace cY:=nt cY
       refine ai λI a w U=>?_
       have hR:gF x e=(x,false):=abR ae al bh aZ cY
       refine U.de (r,r) [] rfl (.cons (.t rfl) .nil) trivial (by rw[hR];rfl) (by rw[hR];rfl)
      ·rw[<-Bool.not_and] at cY;replace cY:=nf cY;have RU:=cY;simp only[aQ,Bool.and_eq_true,decide_eq_true_eq] at RU;have yZ:=m0.1 RU.2;have iP:=(hg.site e.at_.toNat (by omega)).2
       refine wp_skip<|aY<|wp_seq<|U.dk ?_
       refine fK ?_
       refine .o (jr tw cm .tt .tt (λ_=>by rw[List.length_map];omega)) ?_
       refine bn ?_
       refine .nil ?_
       intro I a w U
       refine aY<|wp_seq<|wp_seq<|U.dk ?_
       refine cD ?_
       refine .o (Ti 1 x4 .tt rfl (λ_=>by exact fG (by omega)) rfl rfl rfl) ?_
       refine cD ?_
       refine .o (KQ .tt .tt x6)<|.nil ?_
       intro I a w U
       refine aY ?_
       refine U.cd (λfw=>?_) λfw=>?_
       ·refine ai λI a w U=>?_
        have hR:(gF x e).2=false:=by rw[y7 cY];exact YU fw
        refine U.de (r,r) [] rfl (.cons (.t rfl) .nil) trivial (by rw[hR];rfl) (by rw[hR];rfl)
       ·refine aU λI a w U=>?_
        refine cz (λjF=>?_) λjF=>?_
        ·refine bk λI a w U=>?_
         refine U.o (rA 1 cm .tt rfl (λ_=>by exact fG (by omega)) rfl) λU=>?_
         refine U.o (.c1 (abi (ab x.ax e.at_.toNat) iP)) λU=>?_
         refine U.o .nl λU=>?_
         refine U.lX 1 cm .tt .tt rfl (by exact fG (by omega)) rfl rfl λa w U=>?_
         refine wpList_nil ?_
         have e9:∀y,y=Server.cells (ou (ab x.ax e.at_.toNat))->(List.map Server.cells x.ax).set e.at_.toNat y=List.map Server.cells (x.ax.set e.at_.toNat (ou (ab x.ax e.at_.toNat))):=λy hy=>by rw[hy,List.map_set]
         rw[e9] at U
         rotate_left
         ·rfl
         refine ai λI a w U=>?_
         have hR:gF x e=({x with ax:=x.ax.set e.at_.toNat (ou (ab x.ax e.at_.toNat))},true):=by rw[y7 cY,YV fw jF]
         refine U.de (r,q) [0,1,2,3,4] rfl (.cons (.t rfl) .nil) trivial (by rw[hR];rfl) (by rw[hR];rfl)
        ·refine aA λI a w U=>?_
         refine cz (λEn=>?_) λEn=>?_
         ·refine bk λI a w U=>?_
          refine U.o (rA 1 cm .tt rfl (λ_=>by exact fG (by omega)) rfl) λU=>?_
          refine U.o (.c1 (abh (ab x.ax e.at_.toNat) iP)) λU=>?_
          refine U.o .nl λU=>?_
          refine U.lX 1 cm .tt .tt rfl (by exact fG (by omega)) rfl rfl λa w U=>?_
          refine wpList_nil ?_
          have e9:∀y,y=Server.cells (o5 (ab x.ax e.at_.toNat))->(List.map Server.cells x.ax).set e.at_.toNat y=List.map Server.cells (x.ax.set e.at_.toNat (o5 (ab x.ax e.at_.toNat))):=λy hy=>by rw[hy,List.map_set]
          rw[e9] at U
          rotate_left
          ·rfl
          refine ai λI a w U=>?_
          have hR:gF x e=({x with ax:=x.ax.set e.at_.toNat (o5 (ab x.ax e.at_.toNat))},true):=by rw[y7 cY,YW fw En]
          refine U.de (r,q) [0,1,2,3,4] rfl (.cons (.t rfl) .nil) trivial (by rw[hR];rfl) (by rw[hR];rfl)
         ·refine aA λI a w U=>?_
          refine cz (λEo=>?_) λEo=>?_
          ·refine bk λI a w U=>?_
           refine U.o (rA 1 cm .tt rfl (λ_=>by exact fG (by omega)) rfl) λU=>?_
           refine U.o (.c1 (abE (ab x.ax e.at_.toNat) iP)) λU=>?_
           refine U.cG [0,2] (DG b x.time (.slice (some ⟨bS,0,none⟩) (x.ax.map Server.cells).length cS) r q z x.ar (kJ (ab x.ax e.at_.toNat)) ku (by have:=OB iP;omega) (λy hy=>xb (DM iP y hy))) (aw .tt (aw .r aL)) rfl (by decide) rfl λu2 I a w amk U=>?_
           refine ai λI a w U=>?_
           have hR:gF x e=({x with ar:=eF x.ar (kJ (ab x.ax e.at_.toNat))},true):=by rw[y7 cY,YX fw Eo]
           refine U.de (u2,q) [0,1,2,3,4] rfl (.cons (.t rfl) .nil) trivial (by rw[hR];rfl) (by rw[hR];rfl)
          ·refine aA λI a w U=>?_
           refine cz (λBw=>?_) λBw=>?_
           ·refine wp_seq ?_
            have U:=U.fT
            have U:=U.fT
            refine U.eo [([],none),([],none),([1],none),([],none),([],none),([],none),([],none),([],none),([],none),([],none),([5],some (5,[7])),([6],some (6,[8])),([5],some (5,[7])),([6],some (6,[8])),([],none)] (by kernel_rfl) (by kernel_rfl) rfl ?_
            refine bT ?_
            refine .r [1] (rA 1 cm .tt rfl (λ_=>by exact fG (by omega)) rfl) ?_
            refine bT ?_
            refine .o (.c2 (abw (ab x.ax e.at_.toNat) e.slot iP)) ?_
            refine dq ?_
            refine aS.alloc 5 rfl rfl cm dF<|aS.alloc 6 rfl rfl dr eb<|aS.mz 5 rfl cm rfl .tt rfl rfl<|aS.mz 6 rfl dr rfl .tt rfl rfl ?_
            refine bn ?_
            refine .nil ?_
            intro I a w U
            obtain⟨b7,U⟩:=U.lC (d:=7) 5 rfl rfl
            obtain⟨I,U⟩:=U.fb 5 7
            obtain⟨b8,U⟩:=U.lC (d:=8) 6 rfl rfl
            obtain⟨I,U⟩:=U.fb 6 8
            refine aA λI a w U=>?_
            refine U.cd (λsS=>?_) λsS=>?_
            ·replace sS:=nt sS
             refine ai λI a w U=>?_
             have hR:gF x e=(x,false):=by rw[y7 cY,YZ Bw sS]
             refine U.de (r,r) [] rfl (.cons (.t rfl) .nil) trivial (by rw[hR];rfl) (by rw[hR];rfl)
            ·replace sS:=nf sS
             refine bk λI a w U=>?_
             refine U.lX 1 cm .tt .tt rfl (by exact fG (by omega)) rfl rfl λa w U=>?_
             refine wpList_nil ?_
             have e9:∀y,y=Server.cells (eI (ab x.ax e.at_.toNat) e.slot).1->(List.map Server.cells x.ax).set e.at_.toNat y=List.map Server.cells (x.ax.set e.at_.toNat (eI (ab x.ax e.at_.toNat) e.slot).1):=λy hy=>by rw[hy,List.map_set]
             rw[e9] at U
             rotate_left
             ·rfl
             refine aF λI a w U=>?_
             refine U.o (.li [(eI (ab x.ax e.at_.toNat) e.slot).2.1.cells] gP (.u .nil)) λU=>?_
             refine U.cG [0,2] (DG b x.time (.slice (some ⟨bS,0,none⟩) (x.ax.map Server.cells).length cS) r q z x.ar [(eI (ab x.ax e.at_.toNat) e.slot).2.1] ku (by simp) (aaX iP sS)) (aw .tt (aw .r aL)) rfl (by decide) rfl λu2 I a w aml U=>?_
             refine ai λI a w U=>?_
             have hR:gF x e=({x with ax:=x.ax.set e.at_.toNat (eI (ab x.ax e.at_.toNat) e.slot).1,ar:=eF x.ar [(eI (ab x.ax e.at_.toNat) e.slot).2.1]},true):=by rw[y7 cY,YY Bw sS]
             refine U.de (u2,q) [0,1,2,3,4] rfl (.cons (.t rfl) .nil) trivial (by rw[hR];rfl) (by rw[hR];rfl)
           ·refine bH λI a w U=>?_
            refine nn<|wp_ret ?_
            exfalso;omega
end Go.Proofs.YtjepcfpkclegdaaGreat
