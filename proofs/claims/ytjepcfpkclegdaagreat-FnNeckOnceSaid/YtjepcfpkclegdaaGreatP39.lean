/- Part 39: contracts of functions, plain facts. -/
import Derived.Test.YtjepcfpkclegdaaGreatP36
import Derived.Test.YtjepcfpkclegdaaGreatP37
set_option linter.unusedVariables false
set_option linter.unusedSimpArgs false
set_option maxRecDepth 100000
set_option maxHeartbeats 4000000
namespace Go.Proofs.YtjepcfpkclegdaaGreat
open Go Go.RowKit
attribute [local irreducible] wpList Code.wp Ok
theorem agQ {w:aE} (h:Inv w) {i:Nat} (hi:i<4) {m:aC} (hm:bO m=true) (g:eN w m) (hk:m.kind=1) (ke:m.to=(i:Int)):gL w i (iL (sv w i) m):=by
 obtain⟨q,hq,a1,a2,a3,a4,a5,a6,a7⟩:=g.k1 hk
 have Ex:q.an=((i/2:Nat):Int):=by rw[<-a3,ke];omega
 have RV:(m.aR-10).toNat=i/2:=by omega
 unfold iL
 split
 ·rename_i hc
  simp only[Bool.and_eq_true,decide_eq_true_eq] at hc
  split
  ·rename_i v hv
   obtain⟨c1,c2,c3,c4,c5⟩:=Nt hv
   refine gL.same h hi λx hx=>?_
   obtain rfl:x=_:=by simpa using hx
   refine Rd rfl ⟨v,?_,c3,c4,c2,rfl⟩
   show bU w (m.aR-10).toNat v
   rw[RV];exact bU.here hi c1
  ·rename_i hn
   split
   ·rename_i eD
    simp only[Bool.and_eq_true,decide_eq_true_eq] at eD
    obtain⟨gr,zf⟩:=agH h hi hm g hk ke hc.1.2 hc.2 hn eD.1.1 eD.1.2 eD.2
    refine gL.settle h hi (gr.inv h hi) (gr.ext h hi) λx hx y hy=>?_
    obtain rfl:x=_:=by simpa using hx
    refine Rd rfl ⟨fm (sv w i) m,hy.ee ?_,rfl,rfl,rfl,rfl⟩
    show bU _ (m.aR-10).toNat _
    rw[RV]
    exact⟨i,hi,rfl,by rw[oG h.aW hi];exact gS.2 (.inl rfl)⟩
   ·exact gL.same h hi λx hx=>by simp at hx
 ·exact gL.same h hi λx hx=>by simp at hx
theorem RW {w:aE} (h:Inv w) {i:Nat} (hi:i<4) {m:aC} (hm:m.to=(i:Int)) (g:eN w m):gL w i (fJ (sv w i) m):=by
 unfold fJ
 split
 ·rename_i hc
  simp only[Bool.and_eq_true] at hc
  obtain⟨⟨hu,hw⟩,_⟩:=hc
  unfold eG
  split
  ·exact agQ h hi hw g ‹_› hm
  split
  ·exact gL.same h hi (agJ h hi hw g ‹_› hm)
  split
  ·exact agB h hi hw g ‹_›
  split
  ·exact adZ h hi hw g ‹_›
  split
  ·exact gL.same h hi (adC h hi m)
  split
  ·exact agD h hi hw g ‹_› hu
  split
  ·exact agE h hi hw g ‹_›
  split
  ·exact agG h hi hw g ‹_›
  ·exact gL.same h hi λx hx=>by simp at hx
 ·exact gL.same h hi λx hx=>by simp at hx
theorem Inv.ar {w:aE} (h:Inv w) (e:Ev):Inv (je w e).1:=by
 unfold je
 split
 ·rename_i hr
  simp only[aQ,Bool.and_eq_true,decide_eq_true_eq] at hr
  have jt:ab w.ar e.word.toNat∈w.ar:=aV (by omega)
  have hm:=h.aW.words _ jt
  have RX:=h.words _ jt
  have h1:Inv (if e.kind=5\/e.iR=0 then{w with ar:=w.ar.take e.word.toNat++w.ar.drop (e.word.toNat+1)} else w):=by
   split
   ·have U:=wH w.ar e.word.toNat
    exact h.frame rfl rfl rfl ⟨h.aW.time,h.aW.ax,h.aW.site,Nat.le_trans U.length_le h.aW.ar,λm hm=>h.aW.words m (U.subset hm),h.aW.seen,h.aW.jD,h.aW.calls⟩ λm hm=>h.words m (U.subset hm)
   ·exact h
  have RY:eN (if e.kind=5\/e.iR=0 then{w with ar:=w.ar.take e.word.toNat++w.ar.drop (e.word.toNat+1)} else w) (ab w.ar e.word.toNat):=by
   split
   ·exact eN.ext (w:=w) (x:={w with ar:=w.ar.take e.word.toNat++w.ar.drop (e.word.toNat+1)}) ⟨λh=>h,λh=>h,λ_ _ _ _=>Int.le_refl _,λq hq=>⟨q,hq,lM.refl q⟩⟩ hm RX λ_ _ hf=>.inr hf
   ·exact RX
  have iP:(if e.kind=5\/e.iR=0 then{w with ar:=w.ar.take e.word.toNat++w.ar.drop (e.word.toNat+1)} else w).ax=w.ax:=by split<;>rfl
  dsimp only
  generalize (if e.kind=5\/e.iR=0 then{w with ar:=w.ar.take e.word.toNat++w.ar.drop (e.word.toNat+1)} else w)=w1 at*
  split
  ·exact h1
  ·split
   ·exact h1.answer RY
   ·rename_i bB
    have ke:0<=(ab w.ar e.word.toNat).to/\(ab w.ar e.word.toNat).to<=3:=by
     have:=(mW hm).2.2.1
     simp only[lB,cL,aQ,Bool.or_eq_true,Bool.and_eq_true,decide_eq_true_eq] at this bB
     omega
    have hi:(ab w.ar e.word.toNat).to.toNat<4:=by omega
    have hh:=RW h1 hi (m:=ab w.ar e.word.toNat) (by omega) RY
    have hwo:=QD (m:=ab w.ar e.word.toNat) (h1.dj hi)
    have:=hh.inv.send hwo hh.words
    rw[<-iP]
    exact this
 ·exact h
theorem Inv.step {w:aE} (h:Inv w) (e:Ev) (aj:(ez w e).2=true):Inv (ez w e).1:=by
 have h1:Inv {w with time:=w.time+1}:=h.frame rfl rfl rfl h.aW.later h.words
 unfold ez at*
 dsimp only at aj⊢
 split
 ·rename_i hk
  rw[if_pos hk] at aj
  exact h1.an e aj
 ·split
  ·exact h1.ar e
  ·split
   ·rename_i hk
    rw[Bool.and_eq_true] at hk
    exact h1.server e hk.2
   ·exact h1
theorem Inv.fP {w:aE} (h:Inv w) (e:Ev):Inv (fP w e).1:=by
 unfold Go.Proofs.YtjepcfpkclegdaaGreat.fP
 split
 ·rename_i hc;exact h.step e hc.2
 ·exact h
structure Idle (w:aE):Prop where
 dj:∀i,i<4->(sv w i).ao=[]/\(sv w i).waits=[]/\(sv w i).aD=[]
 words:∀m∈w.ar,(m.kind=3\/m.kind=4\/m.kind=9\/m.kind=10)/\m.ao=[]/\m.waits=[]/\m.aD=[]/\m.yes=false
 seen:∀l∈w.seen,l=[]
 calls:∀q∈w.calls,q.ctx=[]/\∀a∈q.az,a.yes=false
theorem Idle.send {w:aE} (h:Idle w) {ws:List aC} (hw:∀m∈ws,u0 m):Idle {w with ar:=eF w.ar ws}:=
 ⟨h.dj,λm hm=>by
  rcases Rr hm with hm|hm
  ·exact h.words m hm
  ·exact hw m hm,h.seen,h.calls⟩
theorem Idle.set {w:aE} (hg:cx w) (h:Idle w) {i:Nat} (hi:i<4) {s:Server} (U:ve s):Idle (dO w i s):=
 ⟨λj hj=>by
  rw[uc hg hi]
  split
  ·exact U
  ·exact h.dj j hj,h.words,h.seen,h.calls⟩
theorem Idle.step {w:aE} (h0:cx w) (h:Idle w) (e:Ev) (hk:e.kind=2->∀q∈w.calls,q.kind≠1):Idle (ez w e).1:=by
 have hg:cx {w with time:=w.time+1}:=h0.later
 have h1:Idle {w with time:=w.time+1}:=⟨h.dj,h.words,h.seen,h.calls⟩
 have kg:e.kind=2->∀q∈({w with time:=w.time+1}:aE).calls,q.kind≠1:=hk
 unfold ez
 dsimp only
 revert hg h1 kg
 generalize ({w with time:=w.time+1}:aE)=x
 clear h0 h hk
 intro hg h hk
 split
 ·rename_i hke
  unfold jd
  split
  ·unfold kQ
   split
   ·rename_i hc
    rw[Bool.and_eq_true] at hc
    refine⟨h.dj,h.words,h.seen,λq hq=>?_⟩
    rcases List.mem_append.1 hq with hq|hq
    ·exact h.calls q hq
    ·obtain rfl:q=_:=by simpa using hq
     have:=qt.1 hc.1
     exact⟨h.seen _ (aV (by rw[hg.seen];omega)),λa ha=>by simp[jx,wN] at ha⟩
   ·exact h
  ·dsimp only
   split
   ·exact h
   ·rename_i hn
    obtain⟨a1,a2,a3⟩:=qu (l:=x.calls) (an:=e.an) (by omega)
    split
    ·refine⟨h.dj,h.words,h.seen,λq hq=>?_⟩
     rcases tD hq with rfl|⟨k,hk,_,rfl⟩
     ·have:=h.calls _ (aV a1);exact this
     ·exact h.calls _ (aV hk)
    ·exact h.send (Y7 (hk (by omega) _ (aV a1)))
 ·split
  ·unfold je
   split
   ·rename_i hr
    simp only[aQ,Bool.and_eq_true,decide_eq_true_eq] at hr
    have jt:ab x.ar e.word.toNat∈x.ar:=aV (by omega)
    have hm:=hg.words _ jt
    have RZ:=h.words _ jt
    have h2:Idle (if e.kind=5\/e.iR=0 then{x with ar:=x.ar.take e.word.toNat++x.ar.drop (e.word.toNat+1)} else x):=by
     split
     ·exact⟨h.dj,λm hm=>h.words m (yN hm),h.seen,h.calls⟩
     ·exact h
    have su:cx (if e.kind=5\/e.iR=0 then{x with ar:=x.ar.take e.word.toNat++x.ar.drop (e.word.toNat+1)} else x):=by
     split
     ·have U:=wH x.ar e.word.toNat
      exact⟨hg.time,hg.ax,hg.site,Nat.le_trans U.length_le hg.ar,λm hm=>hg.words m (U.subset hm),hg.seen,hg.jD,hg.calls⟩
     ·exact hg
    have iP:(if e.kind=5\/e.iR=0 then{x with ar:=x.ar.take e.word.toNat++x.ar.drop (e.word.toNat+1)} else x).ax=x.ax:=by split<;>rfl
    dsimp only
    revert h2 su iP
    generalize (if e.kind=5\/e.iR=0 then{x with ar:=x.ar.take e.word.toNat++x.ar.drop (e.word.toNat+1)} else x)=y
    intro h2 su iP
    split
    ·exact h2
    ·split
     ·unfold mb
      dsimp only
      split
      ·exact h2
      ·rename_i hn
       obtain⟨a1,a2,a3⟩:=qu (l:=y.calls) (an:=(ab x.ar e.word.toNat).to-10) (by omega)
       have hb:=acL (m:=ab x.ar e.word.toNat) (t:=y.time) (h2.calls _ (aV a1)) (qp a3).1 RZ
       have R0:∀q∈y.calls.set (cq y.calls ((ab x.ar e.word.toNat).to-10)).toNat (dm (ab y.calls (cq y.calls ((ab x.ar e.word.toNat).to-10)).toNat) (ab x.ar e.word.toNat) y.time),q.ctx=[]/\∀a∈q.az,a.yes=false:=λq hq=>by
        rcases tD hq with rfl|⟨k,hk,_,rfl⟩
        ·exact hb.1
        ·exact h2.calls _ (aV hk)
       split
       ·rename_i he
        refine⟨h2.dj,h2.words,λl hl=>?_,R0⟩
        rcases List.mem_or_eq_of_mem_set hl with hl|rfl
        ·exact h2.seen l hl
        ·exact hb.2 he
       ·exact⟨h2.dj,h2.words,h2.seen,R0⟩
     ·rename_i bB
      have ke:0<=(ab x.ar e.word.toNat).to/\(ab x.ar e.word.toNat).to<=3:=by
       have:=(mW hm).2.2.1
       simp only[lB,cL,aQ,Bool.or_eq_true,Bool.and_eq_true,decide_eq_true_eq] at this bB
       omega
      have hi:(ab x.ar e.word.toNat).to.toNat<4:=by omega
      have hb:=abo (s:=sv y (ab x.ar e.word.toNat).to.toNat) (h2.dj _ hi) RZ
      have:=(h2.set su hi hb.1).send hb.2
      rw[<-iP]
      exact this
   ·exact h
  ·split
   ·rename_i eD
    rw[Bool.and_eq_true] at eD
    obtain⟨hi,_,_,_⟩:=yC eD.2
    have U:=h.dj _ hi
    unfold fI
    dsimp only
    split
    ·exact h.set hg hi U
    split
    ·exact h.set hg hi U
    split
    ·exact h.send (Y6 U)
    split
    ·exact(h.set hg hi (s:=ka (sv x e.at_.toNat) e.slot) U).send (ws:=[fM (ka (sv x e.at_.toNat) e.slot) e.slot]) λm hm=>by
      obtain rfl:m=_:=by simpa using hm
      exact OU (s:=ka (sv x e.at_.toNat) e.slot) U _
    ·exact h
   ·exact h
theorem agT:Idle cX:=by
 refine⟨by decide,λm hm=>by simp[cX] at hm,by decide,λq hq=>by simp[cX] at hq⟩
theorem agU {R:aE->Prop} (h0:R cX) (l:List Ev) (U:∀w e,e∈l->Inv w->w.time<=99999->R w->R (fP w e).1):R (ba l)/\Inv (ba l)/\(ba l).time<=99999:=by
 unfold ba
 split
 ·exact⟨h0,I7,by decide⟩
 ·have key:∀(m:List Ev) (w:aE),(∀e∈m,e∈l)->R w->Inv w->w.time<=99999->R (m.foldl (λw e=>(fQ w e).1) w)/\Inv (m.foldl (λw e=>(fQ w e).1) w)/\(m.foldl (λw e=>(fQ w e).1) w).time<=99999:=by
   intro m
   induction m with
   |nil=>exactλw _ h1 h2 h3=>⟨h1,h2,h3⟩
   |cons e r ih=>
    intro w hm h1 h2 h3
    rw[List.foldl_cons]
    have e1:fQ w e=fP w e:=by unfold fQ;rw[if_pos (ko.2 ⟨h2.aW,h3⟩)]
    rw[e1]
    have h4:(fP w e).1.time<=99999:=by
     unfold fP
     split
     ·rename_i hc;rw[Bd];omega
     ·exact h3
    exact ih _ (λx hx=>hm x (by simp[hx])) (U w e (hm e (by simp)) h2 h3 h1) (h2.fP e) h4
  exact key l cX (λ_ h=>h) h0 I7 (by decide)
theorem iQ (l:List Ev):Inv (ba l)/\(ba l).time<=99999:=(agU (R:=λ_=>True) trivial l λ_ _ _ _ _ _=>trivial).2
theorem R1 {R:aE->Prop} (h0:R cX) (l:List Ev) (U:∀w e,e∈l->cx w->w.time<=99999->R w->R (fP w e).1):R (ba l)/\ey (ba l)=true:=by
 unfold ba
 split
 ·exact⟨h0,A9⟩
 ·have key:∀(m:List Ev) (w:aE),(∀e∈m,e∈l)->R w->ey w=true->R (m.foldl (λw e=>(fQ w e).1) w)/\ey (m.foldl (λw e=>(fQ w e).1) w)=true:=by
   intro m
   induction m with
   |nil=>exactλw _ h1 h2=>⟨h1,h2⟩
   |cons e r ih=>
    intro w hm h1 h2
    rw[List.foldl_cons]
    have e1:fQ w e=fP w e:=by unfold fQ;rw[if_pos h2]
    rw[e1]
    have hg:=ko.1 h2
    exact ih _ (λx hx=>hm x (by simp[hx])) (U w e (hm e (by simp)) hg.1 hg.2 h1) (Bn h2 e)
  exact key l cX (λ_ h=>h) h0 A9
theorem lT (l:List Ev):ey (ba l)=true:=(R1 (R:=λ_=>True) trivial l λ_ _ _ _ _ _=>trivial).2
theorem Idle.fP {w:aE} (h0:cx w) (h:Idle w) (e:Ev) (hk:e.kind=2->∀q∈w.calls,q.kind≠1):Idle (fP w e).1:=by
 unfold Go.Proofs.YtjepcfpkclegdaaGreat.fP
 split
 ·exact h.step h0 e hk
 ·exact h
theorem agV {l:List Ev} (h:∀e∈l,e.kind≠2):Idle (ba l):=(R1 agT l λw e he h0 _ hb=>hb.fP h0 e λe2=>absurd e2 (h e he)).1
theorem mI (l:List Ev):yn (ba l):=(ko.1 (lT l)).1.small
theorem rn (l:List Ev):(ba l).ax.length=4:=(ko.1 (lT l)).1.ax
theorem qc (l:List Ev):(ba l).seen.length=2:=(ko.1 (lT l)).1.seen
theorem agW (l:List Ev) (c k:Nat):ey (ra l c k)=true:=IA (R:=λx=>ey x=true) (lT _) λx e _ h=>adx h e
theorem agX (l:List Ev):Idle (ba (lf l)):=agV λe he=>by
 have:=(List.mem_filter.1 he).2
 simpa using this
theorem R2 {w:aE} (h:Idle w) {σ:Nat} (hσ:σ<2):bI w (σ:Int)=[]:=by
 unfold bI
 have e0:(2*(σ:Int)).toNat=2*σ:=by omega
 have e1:(2*(σ:Int)+1).toNat=2*σ+1:=by omega
 rw[e0,e1]
 have h0:=(h.dj (2*σ) (by omega)).1
 have h1:=(h.dj (2*σ+1) (by omega)).1
 unfold sv at h0 h1
 rw[h0,h1];rfl
end Go.Proofs.YtjepcfpkclegdaaGreat
