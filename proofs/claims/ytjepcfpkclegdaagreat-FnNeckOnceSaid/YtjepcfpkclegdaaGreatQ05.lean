/- Part 46: contracts of functions, plain facts. -/
import Derived.Test.YtjepcfpkclegdaaGreatQ04
set_option linter.unusedVariables false
set_option linter.unusedSimpArgs false
set_option maxRecDepth 100000
set_option maxHeartbeats 4000000
namespace Go.Proofs.YtjepcfpkclegdaaGreat
open Go Go.RowKit
attribute [local irreducible] wpList Code.wp Ok
theorem ag9 {w:aE} (h:Inv w) (e:Ev) {σ:Nat} {v:aB} (hv:bU w σ v):bU (ez w e).1 σ v:=by
 have h1:Inv {w with time:=w.time+1}:=h.frame rfl rfl rfl h.aW.later h.words
 have Bo:bU {w with time:=w.time+1} σ v:=hv
 have same:∀x:aE,x.ax=w.ax->bU x σ v:=λx hx=>by
  obtain⟨i,a,b,d⟩:=hv
  exact⟨i,a,b,by unfold sv at*;rw[hx];exact d⟩
 unfold ez
 dsimp only
 split
 ·apply same
  unfold jd kQ
  dsimp only
  repeat' split
  all_goals rfl
 ·split
  ·unfold je
   dsimp only
   split
   ·rename_i hr
    simp only[aQ,Bool.and_eq_true,decide_eq_true_eq] at hr
    have jt:ab w.ar e.word.toNat∈w.ar:=aV (by omega)
    have hm:=h.aW.words _ jt
    split
    ·apply same;split<;>rfl
    ·split
     ·apply same
      unfold mb
      dsimp only
      repeat' split
      all_goals rfl
     ·rename_i bB
      have ke:0<=(ab w.ar e.word.toNat).to/\(ab w.ar e.word.toNat).to<=3:=by
       have:=(mW hm).2.2.1
       simp only[lB,cL,aQ,Bool.or_eq_true,Bool.and_eq_true,decide_eq_true_eq] at this bB
       omega
      exact(RW h1 (i:=(ab w.ar e.word.toNat).to.toNat) (by omega) (m:=ab w.ar e.word.toNat) (by omega) ((h1.words _ jt))).ext.ee Bo
   ·exact hv
  ·split
   ·rename_i hk
    rw[Bool.and_eq_true] at hk
    obtain⟨hi,_,_,_⟩:=yC hk.2
    unfold fI
    dsimp only
    split
    ·exact((RC h1 hi).ext h1 hi).ee Bo
    split
    ·exact((RD h1 hi).ext h1 hi).ee Bo
    split
    ·exact hv
    split
    ·rename_i eD
     exact((Rz h1 hi eD).ext h1 hi).ee Bo
    ·exact hv
   ·exact hv
theorem Sb {w:aE} (h:ey w=true) (e:Ev):fQ w e=fP w e:=by unfold fQ;rw[if_pos h]
theorem aha {w:aE} (h:Inv w) (ht:w.time<=99999) {σ:Nat} {v:aB} (hv:bU w σ v) (l:List Ev):bU (runN w l) σ v:=
 (IA (R:=λx=>(Inv x/\x.time<=99999)/\bU x σ v) (l:=l) ⟨⟨h,ht⟩,hv⟩ λx e _ ⟨⟨a,b⟩,c⟩=>by
   rw[Sb (ko.2 ⟨a.aW,b⟩)]
   refine⟨⟨a.fP e,?_⟩,?_⟩
   ·unfold fP
    split
    ·rename_i hc;rw[Bd];omega
    ·exact b
   ·unfold fP
    split
    ·exact ag9 a e c
    ·exact c).2
theorem ahb {l:List Ev} (hl:l.length<=2000) (k:Nat) {σ:Nat} (hσ:σ<2):∀v∈bI (ba (l.take k)) (σ:Int),dU (bI (ba l) (σ:Int)) v.aT=some v:=λv hv=>by
 have h1:=iQ (l.take k)
 refine ze (iQ l).1 hσ ?_
 rw[QM hl k]
 exact aha h1.1 h1.2 ((lS h1.1 hσ).1 hv) _
theorem SE (code more:List UInt8):
 Fn Tryz.prog 15 [bE code,bE more] (AV.bool true):=by
 refine Fn.go 58 Tryz.func15 Tryz.ntmps15 (λW I a U=>?_)
 have hle:=U.cW (t:=0) rfl
 have agY:=U.cW (t:=1) rfl
 refine mA λI a w U=>?_
 refine U.cd (λae=>?_) λae=>?_
 ·refine ai λI a w U=>?_
  refine U.rt ?_
  rfl
 ·refine bH λI a w U=>?_
  refine U.cG [] (nU code (by simp only[Bool.or_eq_false_iff,decide_eq_false_iff_not] at ae;omega)) (aw .r aL) rfl (by decide) rfl λl I a w ams U=>?_
  refine bk λI a w U=>?_
  refine U.o (.cl (OV l more)) λU=>?_
  refine bk λI a w U=>?_
  refine U.o (te jL iH .r .tt (λ_=>by have:=C2 l more;simp only[List.length_map];omega)) λU=>?_
  rw[<-List.map_take] at U
  refine U.o (.cl (nT (l.take (jV l more).toNat))) λU=>?_
  refine U.alloc rfl df dz λb7 I a w U=>?_
  refine ai λI a w U=>?_
  obtain⟨I,U⟩:=U.fb 0 7
  refine aF λI a w U=>?_
  refine U.o (te jL iH .r .tt (λ_=>by have:=C2 l more;simp only[List.length_map];omega)) λU=>?_
  rw[<-List.map_take] at U
  refine U.o (.cl (mj (l.take (jV l more).toNat))) λU=>?_
  refine U.alloc rfl df dz λb8 I a w U=>?_
  refine ai λI a w U=>?_
  obtain⟨I,U⟩:=U.fb 1 8
  refine U.m λU=>?_
  refine U.o (.cl (mj l)) λU=>?_
  refine U.alloc rfl df dz λb9 I a w U=>?_
  refine ai λI a w U=>?_
  obtain⟨I,U⟩:=U.fb 2 9
  refine aF λI a w U=>?_
  refine U.o (.c2 (mG (ba (l.take (jV l more).toNat)) (mI _))) λU=>?_
  refine jj λI a w U=>?_
  refine U.cd (λah=>?_) λah=>?_
  ·refine aF λI a w U=>?_
   refine U.o (.c2 (mG (ba (l.take (jV l more).toNat)) (mI _))) λU=>?_
   refine ai λI a w U=>?_
   refine U.rt ?_
   rfl
  ·have pq:l.length<=2000:=by simp at ah;omega
   refine ai λI a w U=>?_
   have U:=U.drop 0
   refine St.lo (σ:=Nat) (4::(10::(run 12 46 []))) ⟨λs=>[(10,AV.int s)],λs=>[],λs=>s<=2⟩ (λs=>2-s) 0 U ?aJ ?aK
   case aJ=>exact Nat.zero_le _
   case aK=>
    rintro s I a w aj U
    have eS:s<=2:=aj
    refine aA λI a w U=>?_
    refine nw (λal=>?_) λal=>?_
    ·have dC:s<2:=by omega
     refine zt ?_
     refine U.dk ?_
     refine bT ?_
     refine .o (bY (p9 (ba l) s (lT l) (by omega)) (aw (.t rfl) (aw (.t rfl) aL))) ?_
     refine bT ?_
     refine .o (bY (p9 (ba (l.take (jV l more).toNat)) s (lT _) (by omega)) (aw (.t rfl) (aw (.t rfl) aL))) ?_
     refine .o (bY (Sa (bI (ba l) s) (bI (ba (l.take (jV l more).toNat)) s) (ahb pq (jV l more).toNat (by omega))) (aw .r (aw .r aL))) ?_
     refine bn ?_
     refine .nil ?_
     intro I a w U
     refine aY ?_
     refine U.cd (λaH=>?_) λaH=>?_
     ·exfalso;simp at aH
      skip
     ·refine aI λI a w U=>?_
      exact U.ag (s+1) (by show s+1<=_;omega)
    ·refine zt ?_
     refine ai λI a w U=>?_
     refine U.rt ?_
     rfl
end Go.Proofs.YtjepcfpkclegdaaGreat
