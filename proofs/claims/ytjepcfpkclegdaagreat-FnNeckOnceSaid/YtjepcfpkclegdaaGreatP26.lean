/- Part 26: contracts of functions, plain facts. -/
import Derived.Test.YtjepcfpkclegdaaGreatP22
set_option linter.unusedVariables false
set_option linter.unusedSimpArgs false
set_option maxRecDepth 100000
set_option maxHeartbeats 4000000
namespace Go.Proofs.YtjepcfpkclegdaaGreat
open Go Go.RowKit
attribute [local irreducible] wpList Code.wp Ok
theorem ada (s:Server) (m:aC) (hg:bF s) (hm:bO m=true):
 Fn Tryz.prog 222 [s.av,m.av] (AV.dx [(eG s m).1.av,bq (eG s m).2]):=by
 refine Fn.go 224 Tryz.func222 Tryz.ntmps222 (λW I a U=>?_)
 have aj:=jY.2 hg
 have cT:=hg.ok
 have jE:=hg.small
 have IU:=hg.aG
 have jX:=qK hm
 have hf9:=u7 hm
 have akL:=cT.bl
 have e9:∀x,x=dG.cells ⟨m.bz,0⟩->(List.map dG.cells s.aG).set m.slot.toNat x=List.map dG.cells (l8 s m).aG:=λx h=>by rw[h];exact List.map_set.symm
 refine aF λI a w U=>?_
 refine U.alloc rfl cm dF λb4 I a w U=>?_
 refine bt λI a w U=>?_
 refine U.o (.c1 (Av ..)) λU=>?_
 refine ai λI a w U=>?_
 refine U.dk ?_
 refine bT ?_
 refine .o (.c1 (tG ..)) ?_
 refine cD ?_
 refine .q .T (.cl (tH ..)) ?_
 refine bT ?_
 refine .q .T (.cl (tH ..)) ?_
 refine cD ?_
 refine .nil ?_
 intro I a w U
 refine aY<|wp_seq<|U.dk ?_
 refine dq ?_
 refine .o (.c1 (Hd _ hg.site)) ?_
 refine bT ?_
 refine .nil ?_
 intro I a w U
 refine Ck λI a w U=>?_
 refine U.q .T (.cl (yK s m.key IU)) λU=>?_
 refine aA λI a w U=>?_
 refine U.cd (λae=>?_) λae=>?_
 ·refine aF λI a w U=>?_
  refine U.o (.c2 (acx s m hg hm (DY ae).2)) λU=>?_
  refine aU λI a w U=>?_
  refine U.ret rfl (.cons (.sx 0) (.cons .x aX.nil)) ?_
  exact(by rw[qR (DY ae).1];rfl)
 ·refine Ck λI a w U=>?_
  refine U.q .T (.cl (yK s m.key IU)) λU=>?_
  refine aA λI a w U=>?_
  refine U.cd (λah=>?_) λah=>?_
  ·refine aF λI a w U=>?_
   refine U.o (.c2 (ach s m hg (DY ah).2)) λU=>?_
   refine aU λI a w U=>?_
   refine U.ret rfl (.cons (.sx 0) (.cons .x aX.nil)) ?_
   exact(by rw[qS (DY ah).1];rfl)
  ·refine jT λI a w U=>?_
   refine U.cd (λal=>?_) λal=>?_
   ·refine aF λI a w U=>?_
    refine U.o (.c2 (abz s m hg hm (Od al).2)) λU=>?_
    refine aU λI a w U=>?_
    refine U.ret rfl (.cons (.sx 0) (.cons .x aX.nil)) ?_
    exact(by rw[qT (Od al).1];rfl)
   ·refine uO λI a w U=>?_
    refine U.q .T (.cl (yK s m.key IU)) λU=>?_
    refine aA λI a w U=>?_
    refine U.cd (λaH=>?_) λaH=>?_
    ·refine bH λI a w U=>?_
     refine U.cG [] (A3 s jE) (aw .tt aL) rfl (by decide) rfl λ⟨vS,vV,vW,vO,vK⟩ I a w D4 U=>?_
     refine U.alloc rfl cm dF λb9 I a w U=>?_
     refine bk λI a w U=>?_
     refine U.o (mN (aw .tt aL)) λU=>?_
     refine U.cG [4,0] (HH vO s.aD (λd=>decide (d=⟨m.key,m.aq⟩)) _ (Own.box b4 61 [AV.val (.int .i64 0),AV.val (.bool false),AV.rows 2 [],AV.rows 7 [],AV.rows 7 [],AV.rows 3 [],AV.rows 3 []]) (by have:=jz hg.aD;omega) (λd hd=>lW.frame (Fn.val (gM:=[AV.ptr m.cells]) (Xh m d)))) (aw .r (aw .tt aL)) rfl (by decide) rfl λakM I a w akN U=>?_
     refine U.o .fv λU=>?_
     try have akO:=U.eJ 4 rfl
     refine U.s1 6 λU=>?_
     refine wpList_nil ?_
     obtain⟨I,U⟩:=U.fu 1 2 6
     obtain⟨I,U⟩:=U.fu 2 3 6
     obtain⟨I,U⟩:=U.fu 3 4 6
     obtain⟨I,U⟩:=U.fu 4 5 6
     obtain⟨I,U⟩:=U.fu 5 6 6
     have U:=U.nf
     refine aI λI a w U=>?_
     refine U.ret rfl (.cons (.sx 0) (.cons (.nil (sz:=15) rfl) aX.nil)) ?_
     exact(by rw[abn hg aH];rfl)
    ·refine wq λI a w U=>?_
     refine U.q .T (.bd fL (.k (.t bf.nil (h:=.ag)) (h:=.ag))) λU=>?_
     refine U.q .T (.cl (oj s.ao ⟨m.key,m.aq⟩)) λU=>?_
     refine aI λI a w U=>?_
     refine U.cd (λaM=>?_) λaM=>?_
     ·refine wp_seq ?_
      refine U.dt 9 ?_
      simp only[TD]
      refine lF ?_
      refine .o (.bd eb (.k (.k (.t bf.nil)))) ?_
      refine .o (.c3 (ub s m ⟨8,0,0,0,m.key,m.aq,0,false,[],0,0,[],[],[]⟩ (wJ ..)))<|.nil ?_
      intro I a w U
      refine aA λI a w U=>?_
      refine U.ret rfl (.cons (.sx 0) (.cons .x aX.nil)) ?_
      exact(by rw[abj aM];rfl)
     ·refine Cj λI a w U=>?_
      refine U.q .T (.bd fL (.k (.t bf.nil (h:=.ag)) (h:=.ag))) λU=>?_
      refine U.q .T (.cl (aaA s ⟨m.key,m.aq⟩)) λU=>?_
      refine ob λI a w U=>?_
      refine U.cd (λbh=>?_) λbh=>?_
      ·refine bH λI a w U=>?_
       refine U.o (.c1 (ua s jE)) λU=>U.alloc rfl cm dF λlN I a w U=>?_
       refine gz λI a w U=>?_
       refine U.o (.bd fL (.k (.t bf.nil))) λU=>?_
       refine U.o (bY (Ij s.bl ⟨m.key,m.aq⟩ (by have:=cT.bl;omega)) (aw .r (aw (.t rfl) aL))) λU=>?_
       refine bk λI a w U=>?_
       refine U.o (bY (y6 {s with bl:=ef s.bl ⟨m.key,m.aq⟩} (cT.O6 (by simp only[B] at bh;omega)) (jz hg.aD)) (aw (.t rfl) aL)) λU=>?_
       refine aA λI a w U=>?_
       refine U.ret rfl (.cons (.sx 0) (.cons (.nil (sz:=15) rfl) aX.nil)) ?_
       exact(by rw[abk bh];rfl)
      ·refine Ae λI a w U=>?_
       refine U.cd (λaZ=>?_) λaZ=>?_
       ·refine aF λI a w U=>?_
        refine U.o (.c2 (abA s m hg hm (Nf aZ).2)) λU=>?_
        refine aU λI a w U=>?_
        refine U.ret rfl (.cons (.sx 0) (.cons .x aX.nil)) ?_
        exact(by rw[qW (Nf aZ).1];rfl)
       ·refine wp_seq<|U.dk ?_
        refine UT ?_
        refine .q .T (.bd oe (.k (.k bf.nil) (h:=.ag))) ?_
        refine .q .T (mM [_,_] [_,_] L4 rfl rfl .ag .ag) ?_
        refine bT ?_
        refine .nil ?_
        intro I a w U
        refine aY ?_
        refine U.cd (λbV=>?_) λbV=>?_
        ·refine bk λI a w U=>?_
         refine U.cG [] (Qv s m.slot jE) (aw .tt (aw .tt aL)) rfl (by decide) rfl λvS I a w akP U=>?_
         refine U.alloc rfl cm dF λma I a w U=>?_
         refine ai λI a w U=>?_
         obtain⟨bS,cS,rfl⟩:=U.j7 1 rfl (by rw[List.length_map];omega)
         refine bt λI a w U=>?_
         refine U.o (jr fU er .tt .tt (λ_=>by simp only[List.length_map];omega)) λU=>?_
         refine U.o .fv λU=>?_
         refine U.zP (j:=1) 1 gO .tt .c (by first|exact jR rfl|exact j0|exact j1|exact j6|assumption) rfl (by exact fG (by omega)) rfl rfl λa w U=>?_
         refine zt ?_
         rw[e9] at U
         rotate_left
         ·exact Xi bV
         obtain⟨I,U⟩:=U.fu 1 2 2
         refine bH λI a w U=>?_
         refine U.o (.c1 (y6 (l8 s m) (cT.gone m) (Nat.le_trans (List.length_filter_le ..) (jz hg.aD)))) λU=>?_
         refine aA λI a w U=>?_
         refine U.ret rfl (.cons (.sx 0) (.cons (.nil (sz:=15) rfl) aX.nil)) ?_
         exact(by rw[abl bV];rfl)
        ·refine aI λI a w U=>?_
         refine U.ret rfl (.cons (.sx 0) (.cons (.nil (sz:=15) rfl) aX.nil)) ?_
         exact(by rw[aci hm ae ah al aH aM bh aZ bV];rfl)
end Go.Proofs.YtjepcfpkclegdaaGreat
