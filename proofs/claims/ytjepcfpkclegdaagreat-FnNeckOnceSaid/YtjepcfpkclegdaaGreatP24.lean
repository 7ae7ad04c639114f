/- Part 24: contracts of functions, plain facts. -/
import Derived.Test.YtjepcfpkclegdaaGreatP19
import Derived.Test.YtjepcfpkclegdaaGreatP20
set_option linter.unusedVariables false
set_option linter.unusedSimpArgs false
set_option maxRecDepth 100000
set_option maxHeartbeats 4000000
namespace Go.Proofs.YtjepcfpkclegdaaGreat
open Go Go.RowKit
attribute [local irreducible] wpList Code.wp Ok
theorem acN (s:Server) (m:aC) (hg:bF s) (hm:bO m=true):
 Fn Tryz.prog 210 [s.av,m.av] (AV.dx [(iL s m).1.av,bq (iL s m).2]):=by
 refine Fn.go 150 Tryz.func210 Tryz.ntmps210 (λW I a U=>?_)
 have aj:=jY.2 hg
 have cT:=hg.ok
 have lR:=oB hm
 have AO:=gR lR.2.2.2
 have Rh:aQ m.aR 10 11=true\/True:=.inr trivial
 have lens:m.aO.length<=9223372036854775807/\m.ao.length<=9223372036854775807/\m.waits.length<=9223372036854775807/\m.aD.length<=9223372036854775807:=⟨U.ln 1 9,U.ln 1 12,U.ln 1 13,U.ln 1 14⟩
 refine sr<|U.box rfl .tt λb2 I a w U=>U.o .bp λU=>U.alloc rfl cm dF λb4 I a w U=>?_
 refine ai λI a w U=>?_
 refine U.l0 λO2 I a w U=>?_
 obtain⟨I,U⟩:=U.fr 2 18
 refine bk λI a w U=>?_
 refine U.o (Ka .tt .c (λ_=>by have h9:=u7 hm;omega)) λU=>?_
 refine bk λI a w U=>?_
 refine U.o (.c1 (AA ..)) λU=>?_
 refine uO λI a w U=>?_
 refine U.q .F (.cl (Ic _ _ aj)) λU=>?_
 refine aA λI a w U=>?_
 refine U.cd (λae=>?_) λae=>?_
 ·rw[DX s m] at ae;replace ae:=nt ae
  refine aU λI a w U=>?_
  refine U.ret rfl (.cons (.sx 1) (.cons .x aX.nil)) ?_
  exact(by rw[ab6 ae];rfl)
 ·rw[DX s m] at ae;replace ae:=nf ae
  refine dD λI a w U=>?_
  refine U.o (.cl (Yt s m.key (m.aR-10) m.call)) λU=>?_
  refine bk λI a w U=>?_
  refine U.alloc rfl bA dE λb8 I a w U=>?_
  refine aU λI a w U=>?_
  refine U.cd (λah=>?_) λah=>?_
  ·rw[Bool.not_eq_true'] at ah
   refine zt ?_
   refine U.l0 λb52 I a w U=>?_
   refine aA λI a w U=>?_
   refine St.lo (σ:=Nat×Value) (run 2 10 (run 16 53 [])) ⟨λ⟨k,v⟩=>[(11,AV.int k),(10,AV.val v)],λ⟨k,v⟩=>[Own.box b2 61 s.cells,Own.box b4 61 [AV.val (.int .i64 0),AV.val (.bool false),AV.rows 2 [],AV.rows 7 [],AV.rows 7 [],AV.rows 3 [],AV.rows 3 []],Own.gone,Own.box b8 43 ((kG s m.key (m.aR-10) m.call).getD default).cells,Own.row v 36 2 (((m.aO.take k).map au.aq).map cw.cells)],λ⟨k,v⟩=>k<=m.aO.length⟩ (λ⟨k,v⟩=>m.aO.length-k) (0,.slice (some ⟨b52,0,none⟩) 0 0) U ?aJ ?aK
   case aJ=>exact Nat.zero_le _
   case aK=>
    rintro⟨k,v⟩ I a w aj U
    have hk:k<=m.aO.length:=aj
    dsimp only at U
    refine ck λI a w U=>?_
    refine cz (λal=>?_) λal=>?_
    ·refine gz λI a w U=>?_
     refine U.o (.li [(ab m.aO k).aq.cells] Cp (.u .nil)) λU=>?_
     refine U.append 4 rfl L3 l5 rfl .tt .r rfl (by simp only[List.length_map,List.length_cons,List.length_nil,List.length_take];omega) λIL a w U=>?_
     refine aU λI a w U=>?_
     rw[cA,show(m.aO.take k).map au.aq++[(ab m.aO k).aq]=(m.aO.take (k+1)).map au.aq from by rw[dW al,List.map_append];rfl] at U
     exact U.ag (k+1,IL) (al)
    ·refine zt ?_
     refine bt λI a w U=>?_
     refine U.o (.cl (Qb _ _ cT.ao)) λU=>?_
     refine bk λI a w U=>?_
     refine U.alloc rfl bA dE λtZ I a w U=>?_
     refine U.sb 5 λU=>?_
     obtain⟨I,U⟩:=U.fb 5 12
     refine U.s λU=>nn ?_
     refine St.cut (σ:=Value) (10::(run 6 77 [])) ⟨λv=>[(10,AV.val v)],λv=>[Own.box b2 61 s.cells,Own.box b4 61 [AV.val (.int .i64 0),AV.val (.bool false),AV.rows 2 [],AV.rows 7 [],AV.rows 7 [],AV.rows 3 [],AV.rows 3 []],Own.gone,Own.box b8 43 ((kG s m.key (m.aR-10) m.call).getD default).cells,Own.row v 36 2 ((kj s m).map cw.cells),Own.gone],λv=>True⟩ U ?acP ?acQ
     case acP=>
      refine ai λI a w U=>?_
      refine U.cd (λaH=>?_) λaH=>?_
      ·refine bk λI a w U=>?_
       refine U.o (.li [((fA s.ao m.key).getD default).aq.cells] Cp (.u .nil)) λU=>?_
       refine U.append 4 rfl L3 l5 rfl .tt .r rfl (by simp only[List.length_map,List.length_cons,List.length_nil,List.length_take];omega) λIM a w U=>?_
       refine ai λI a w U=>?_
       first|rw[cA,show m.aO.take k=m.aO from List.take_of_length_le (by omega),CY aH] at U|rw[show m.aO.take k=m.aO from List.take_of_length_le (by omega),CZ aH] at U
       exact U.me IM (by trivial)
      ·refine zt ?_
       first|rw[cA,show m.aO.take k=m.aO from List.take_of_length_le (by omega),CY aH] at U|rw[show m.aO.take k=m.aO from List.take_of_length_le (by omega),CZ aH] at U
       exact U.me v (by trivial)
     case acQ=>
      rintro v I a w aj U
      refine bk λI a w U=>?_
      obtain⟨I,U⟩:=U.fr 4 86
      refine U.o (.cl (Zd s.site (kj s m) hg.site (HZ hg hm))) λU=>?_
      refine bk λI a w U=>?_
      refine U.alloc rfl l5 jU λsg I a w U=>?_
      refine U.sb 6 λU=>?_
      obtain⟨I,U⟩:=U.fb 6 14
      refine ai λI a w U=>?_
      refine U.dt 13 ?_
      simp only[TD]
      refine nx ?_
      refine .o (rG dJ cH) ?_
      refine bT ?_
      refine .o (Ca dJ cH rfl .tt .r (λ_=>by simp;omega)) ?_
      refine .o (.bd dE (.k (.t (.k (.k (.k (.k bf.nil))))))) ?_
      refine .nil ?_
      intro I a w U
      refine bt λI a w U=>?_
      refine U.o (.cl (DP s.ao (fm s m) cT.ao)) λU=>?_
      refine FW λI a w U=>?_
      refine U.cd (λaM=>?_) λaM=>?_
      ·rw[Nw s m] at aM;replace aM:=nt aM
       refine aU λI a w U=>?_
       refine U.ret rfl (.cons (.sx 1) (.cons .x aX.nil)) ?_
       exact(by rw[IE ae ah aM];rfl)
      ·rw[Nw s m] at aM;replace aM:=nf aM
       refine aI λI a w U=>?_
       rw[if_pos (by simp only[Bool.and_eq_true] at aM;exact aM.1.2)] at U
       refine dD λI a w U=>?_
       refine U.o (.bd fL (.k (.t bf.nil))) λU=>?_
       refine U.o (bY (Ig s.aD (fm s m).aT (by have:=jz hg.aD;omega)) (aw .r (aw (.t rfl) aL))) λU=>?_
       refine bk λI a w U=>?_
       refine U.o (bY (y8 {s with ao:=fk s.ao (fm s m),aD:=ef s.aD (fm s m).aT} (ID hg hm (by simp only[Bool.and_eq_true] at ae;exact ae.2) aM).ok) (aw (.t rfl) aL)) λU=>?_
       refine ai λI a w U=>?_
       refine U.eo [([0],none),([],none),([0],none),([],none),([],none),([],none),([],none),([],none),([],none),([],none),([3],none),([],none),([],none),([1],some (1,[])),([],none)] (by kernel_rfl) (by kernel_rfl) rfl ?_
       refine .r [0] (.ls 0) ?_
       refine bn ?_
       refine .r [0] (.lb 0) ?_
       refine lF ?_
       refine .r [3] (.ls 3) ?_
       refine .o (.bd eb (.k (.k (.k (.k (.k (.t bf.nil))))))) ?_
       refine .o (.li [({nE s m (fm s m).aq with aR:=(fO {s with ao:=fk s.ao (fm s m),aD:=ef s.aD (fm s m).aT}).site}).cells] gP (.u .nil)) ?_
       refine aS.iW (x:=AV.any) 1 (λF W0 I0 I a w Q U kk=>U.sb 1 λU=>kk _ _ _ U) ?_
       refine bn ?_
       refine .nil ?_
       intro I a w U
       refine zt ?_
       refine U.ret rfl (.cons (.sx 1) (.cons .x aX.nil)) ?_
       exact(by rw[QR ae ah aM,(AT _).1];rfl)
  ·rw[Bool.not_eq_false'] at ah
   refine zt ?_
   refine U.eo [([0],none),([],none),([0],none),([],none),([],none),([],none),([],none),([],none),([],none),([],none),([3],none),([],none),([],none),([1],some (1,[])),([],none)] (by kernel_rfl) (by kernel_rfl) rfl ?_
   refine .r [0] (.ls 0) ?_
   refine bn ?_
   refine .r [0] (.lb 0) ?_
   refine lF ?_
   refine .r [3] (.ls 3) ?_
   refine .o (.bd eb (.k (.k (.k (.k (.k (.t bf.nil))))))) ?_
   refine .o (.li [(nE s m ((kG s m.key (m.aR-10) m.call).getD default).aq).cells] gP (.u .nil)) ?_
   refine aS.iW (x:=AV.any) 1 (λF W0 I0 I a w Q U kk=>U.sb 1 λU=>kk _ _ _ U) ?_
   refine bn ?_
   refine .nil ?_
   intro I a w U
   refine zt ?_
   refine U.ret rfl (.cons (.sx 1) (.cons .x aX.nil)) ?_
   exact(by rw[QQ ae ah];rfl)
end Go.Proofs.YtjepcfpkclegdaaGreat
