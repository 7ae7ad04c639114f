/- Part 29: contracts of functions, plain facts. -/
import Derived.Test.YtjepcfpkclegdaaGreatP21
import Derived.Test.YtjepcfpkclegdaaGreatP22
import Derived.Test.YtjepcfpkclegdaaGreatP25
set_option linter.unusedVariables false
set_option linter.unusedSimpArgs false
set_option maxRecDepth 100000
set_option maxHeartbeats 4000000
namespace Go.Proofs.YtjepcfpkclegdaaGreat
open Go Go.RowKit
attribute [local irreducible] wpList Code.wp Ok
theorem adk {w:aE} (h:cx w) (e:Ev):cx (je w e).1:=by
 unfold je
 split
 ·rename_i hr
  simp only[aQ,Bool.and_eq_true,decide_eq_true_eq] at hr
  have hm:bO (ab w.ar e.word.toNat)=true:=h.words _ (aV (by omega))
  have h1:cx (if e.kind=5\/e.iR=0 then{w with ar:=w.ar.take e.word.toNat++w.ar.drop (e.word.toNat+1)} else w):=by
   split
   ·have U:=wH w.ar e.word.toNat
    exact⟨h.time,h.ax,h.site,Nat.le_trans U.length_le h.ar,λm hm=>h.words m (U.subset hm),h.seen,h.jD,h.calls⟩
   ·exact h
  have iP:(if e.kind=5\/e.iR=0 then{w with ar:=w.ar.take e.word.toNat++w.ar.drop (e.word.toNat+1)} else w).ax=w.ax:=by split<;>rfl
  dsimp only
  generalize (if e.kind=5\/e.iR=0 then{w with ar:=w.ar.take e.word.toNat++w.ar.drop (e.word.toNat+1)} else w)=w1 at*
  split
  ·exact h1
  ·split
   ·exact Q8 h1 _
   ·rename_i bB
    have ke:0<=(ab w.ar e.word.toNat).to/\(ab w.ar e.word.toNat).to<=3:=by
     have:=(mW hm).2.2.1
     simp only[lB,cL,aQ,Bool.or_eq_true,Bool.and_eq_true,decide_eq_true_eq] at this bB
     omega
    have hi:(ab w.ar e.word.toNat).to.toNat<4:=by omega
    have zd:=(h.site _ hi).2
    have:=(h1.server hi (s:=(fJ (ab w.ax (ab w.ar e.word.toNat).to.toNat) (ab w.ar e.word.toNat)).1) (acR zd) (by rw[aa9,iP])).send (QD (m:=ab w.ar e.word.toNat) zd)
    rw[<-iP] at this⊢
    exact this
 ·exact h
theorem Rl {w:aE} (h:cx w) (e:Ev) (aj:(ez w e).2=true):cx (ez w e).1:=by
 have h1:=h.later
 unfold ez at*
 dsimp only at aj⊢
 split
 ·rename_i hk
  rw[if_pos hk] at aj
  exact Q9 h1 e aj
 ·split
  ·exact adk h1 e
  ·split
   ·rename_i hk
    rw[Bool.and_eq_true] at hk
    exact aaz h1 e hk.2
   ·exact h1
theorem Bn {w:aE} (h:ey w=true) (e:Ev):ey (fP w e).1=true:=by
 unfold fP
 split
 ·rename_i hc
  refine ko.2 ⟨Rl (ko.1 h).1 e hc.2,?_⟩
  show(ez w e).1.time<=99999
  rw[Bd];omega
 ·exact h
theorem adl (q:Call) (m:aC) (t:Int) (h:dw q t) (ht:t<=1000000):
 Fn Tryz.prog 208 [q.av,m.av,AV.int t] ((dm q m t).av):=by
 refine Fn.go 135 Tryz.func208 Tryz.ntmps208 (λW I a U=>?_)
 have aj:=pZ.2 h
 have oH:=h.lens
 have hb:=h.bD
 have xA:=h.Bh (by omega)
 have bB:=qt.1 h.an
 refine aF λI a w U=>?_
 refine U.alloc rfl dQ gD λb6 I a w U=>?_
 refine aF λI a w U=>?_
 refine U.o (bY (DE q t (by omega) (by omega)) (aw (.t rfl) (aw (.t rfl) aL))) λU=>?_
 refine ai λI a w U=>?_
 refine U.cd (λae=>?_) λae=>?_
 ·exfalso;rw[aj] at ae;cases ae
  skip
 ·refine bH λI a w U=>?_
  refine U.cG [] (ZE q h.small) (aw .tt aL) rfl (by decide) rfl λu I a w Rm U=>?_
  refine U.alloc rfl dQ gD λb7 I a w U=>?_
  refine aF λI a w U=>?_
  refine U.o (.c1 (Hb ..)) λU=>?_
  refine LW λI a w U=>?_
  refine U.q .F (.cl (PO ..)) λU=>?_
  refine FW λI a w U=>?_
  refine U.cd (λah=>?_) λah=>?_
  ·rw[QU q m t xA.1] at ah;replace ah:=nt ah
   refine wp_seq ?_
   obtain⟨I,U⟩:=U.fu 1 11 3
   obtain⟨I,U⟩:=U.fu 2 12 3
   refine aA λI a w U=>?_
   refine U.ret rfl (.cons (.sx 0) aX.nil) ?_
   exact(by unfold dm;rw[ah];rfl)
  ·rw[QU q m t xA.1] at ah;replace ah:=nf ah;have uj:=ah;simp only[Bool.and_eq_true,decide_eq_true_eq] at uj;obtain⟨⟨⟨⟨⟨hm,_⟩,_⟩,jh⟩,hw⟩,rj⟩:=uj;have D5:=fV (oB hm).1
   refine aI λI a w U=>?_
   refine cz (λal=>?_) λal=>?_
   ·refine dD λI a w U=>?_
    refine U.q .T (.cl (wA ..)) λU=>?_
    refine ai λI a w U=>?_
    refine U.cd (λaH=>?_) λaH=>?_
    ·refine bk λI a w U=>?_
     refine U.rv 3 l5 .tt .tt rfl rfl rfl λa w U=>?_
     refine aI λI a w U=>?_
     obtain⟨I,U⟩:=U.fu 1 11 3
     obtain⟨I,U⟩:=U.fu 2 12 3
     refine aA λI a w U=>?_
     refine U.ret rfl (.cons (.sx 0) aX.nil) ?_
     exact(by unfold dm;rw[ah,if_pos rfl,if_pos al,if_pos (by simpa using aH)];rfl)
    ·refine wp_skip<|aY<|wp_seq ?_
     obtain⟨I,U⟩:=U.fu 1 11 3
     obtain⟨I,U⟩:=U.fu 2 12 3
     refine aA λI a w U=>?_
     refine U.ret rfl (.cons (.sx 0) aX.nil) ?_
     exact(by unfold dm;rw[ah,if_pos rfl,if_pos al,if_neg (by simpa using aH)];rfl)
   ·refine bt λI a w U=>?_
    refine U.o (.bd od (.k (.k bf.nil))) λU=>?_
    refine U.alloc rfl fj od λb8 I a w U=>?_
    refine ai λI a w U=>?_
    refine U.dk ?_
    refine qn ?_
    refine .q .F2 (dS (i:=0) cJ bA .ag .c (λhg=>by simp at hg;omega)) ?_
    refine nx ?_
    refine .nil ?_
    intro I a w U
    refine aY ?_
    refine U.cd (λaM=>?_) λaM=>?_
    ·rw[C0] at aM;replace aM:=nt aM;rw[decide_eq_false_iff_not] at aM
     refine wp_seq ?_
     obtain⟨I,U⟩:=U.fu 1 11 3
     obtain⟨I,U⟩:=U.fu 2 12 3
     refine aA λI a w U=>?_
     refine U.ret rfl (.cons (.sx 0) aX.nil) ?_
     exact(by unfold dm jW;rw[ah,if_pos rfl,if_neg al,if_neg aM];rfl)
    ·rw[C0] at aM;replace aM:=nf aM;rw[decide_eq_true_eq] at aM;have rk:=Db (q:=q) hm aM.2
     refine wp_skip<|aY ?_
     refine St.cut (σ:=Unit) (run 8 104 []) ⟨λ_=>[],λ_=>[Own.box b6 39 [AV.val (.int .i64 0),AV.val (.int .i64 0),AV.val (.int .i64 0),AV.rows 1 [],AV.val (.int .i64 0),AV.rows 3 [],AV.val (.int .i64 0),AV.val (.int .i64 0),AV.val (.bool false),AV.val (.int .i64 0),AV.val (.int .i64 0),AV.rows 9 [],AV.rows 3 []],Own.row u.1 45 9 (q.az.map Answer.cells),Own.row u.2 63 3 (q.aP.map au.cells),Own.box b7 39 [AV.int q.an,AV.int q.num,AV.int q.kind,jg q.keys,AV.int q.val,bm q.ctx,AV.int q.bD,AV.int q.end_,AV.bool q.over,AV.int q.aq.time,AV.int q.aq.site,AV.val u.1,AV.val u.2],Own.box b8 45 (dN m).cells],λ_=>True⟩ U ?adm ?adn
     case adm=>
      refine aA λI a w U=>?_
      refine U.cd (λbh=>?_) λbh=>?_
      ·have Bo:=(aM.2 bh).1
       refine aF λI a w U=>?_
       refine U.o (dS (i:=0) cJ bA .tt .c (λ_=>by omega)) λU=>?_
       refine U.o .la λU=>?_
       refine U.o (bY (pE (ab m.ao 0) (by have:=gR (jk (gu (oB hm).1 _ (aV (l:=m.ao) (k:=0) (by omega)))).2.2;omega)) (aw (.t rfl) aL)) λU=>?_
       refine U.o .fv λU=>U.rv 4 bA .tt .tt rfl rfl rfl λa w U=>?_
       refine zt ?_
       have U:=U.pass (H':=[Own.box b6 39 [AV.val (.int .i64 0),AV.val (.int .i64 0),AV.val (.int .i64 0),AV.rows 1 [],AV.val (.int .i64 0),AV.rows 3 [],AV.val (.int .i64 0),AV.val (.int .i64 0),AV.val (.bool false),AV.val (.int .i64 0),AV.val (.int .i64 0),AV.rows 9 [],AV.rows 3 []],Own.row u.1 45 9 (q.az.map Answer.cells),Own.row u.2 63 3 (q.aP.map au.cells),Own.box b7 39 [AV.int q.an,AV.int q.num,AV.int q.kind,jg q.keys,AV.int q.val,bm q.ctx,AV.int q.bD,AV.int q.end_,AV.bool q.over,AV.int q.aq.time,AV.int q.aq.site,AV.val u.1,AV.val u.2],Own.box b8 45 (dN m).cells]) (by unfold dN;rw[bh];rfl)
       exact U.me () (by trivial)
      ·refine zt ?_
       have U:=U.pass (H':=[Own.box b6 39 [AV.val (.int .i64 0),AV.val (.int .i64 0),AV.val (.int .i64 0),AV.rows 1 [],AV.val (.int .i64 0),AV.rows 3 [],AV.val (.int .i64 0),AV.val (.int .i64 0),AV.val (.bool false),AV.val (.int .i64 0),AV.val (.int .i64 0),AV.rows 9 [],AV.rows 3 []],Own.row u.1 45 9 (q.az.map Answer.cells),Own.row u.2 63 3 (q.aP.map au.cells),Own.box b7 39 [AV.int q.an,AV.int q.num,AV.int q.kind,jg q.keys,AV.int q.val,bm q.ctx,AV.int q.bD,AV.int q.end_,AV.bool q.over,AV.int q.aq.time,AV.int q.aq.site,AV.val u.1,AV.val u.2],Own.box b8 45 (dN m).cells]) (by unfold dN;rw[bh];rfl)
       exact U.me () (by trivial)
     case adn=>
      rintro _ I a w aj U
      refine bk λI a w U=>?_
      refine U.o (.c2 (CO q m.key)) λU=>?_
      refine ai λI a w U=>?_
      refine cz (λaZ=>?_) λaZ=>?_
      ·refine aF λI a w U=>?_
       refine U.o (.bd jU bf.nil) λU=>?_
       refine U.o (mM [_,_] [_,_] og rfl rfl .tt .tt) λU=>?_
       refine zt ?_
       refine U.cd (λbV=>?_) λbV=>?_
       ·rw[CC] at bV
        refine wp_seq ?_
        obtain⟨I,U⟩:=U.fu 1 11 3
        refine bk λI a w U=>?_
        refine U.eT [2] (ac1 q u.2 (dN m) t h.aW rk (by omega) (by omega) (by omega)) (aw .tt (aw .tt (aw .tt aL))) rfl (by decide) rfl λI a w U=>?_
        refine U.o (.c1 (HL _ (dw.na h hw rj al rk jh aZ).small)) λU=>?_
        refine ai λI a w U=>?_
        refine U.ret rfl (.cons (.sx 0) aX.nil) ?_
        exact(by unfold dm jW;rw[ah,if_pos rfl,if_neg al,if_pos aM,if_pos aZ,if_pos bV];rfl)
       ·rw[CC] at bV
        refine wp_skip<|aY<|wp_seq ?_
        obtain⟨I,U⟩:=U.fu 1 11 3
        obtain⟨I,U⟩:=U.fu 2 12 3
        refine aA λI a w U=>?_
        refine U.ret rfl (.cons (.sx 0) aX.nil) ?_
        exact(by unfold dm jW;rw[ah,if_pos rfl,if_neg al,if_pos aM,if_pos aZ,if_neg (by rw[bV];simp)];rfl)
      ·refine aA λI a w U=>?_
       refine U.cd (λcY=>?_) λcY=>?_
       ·refine wp_seq ?_
        obtain⟨I,U⟩:=U.fu 2 12 3
        refine bk λI a w U=>?_
        refine U.eT [1] (ac2 q u.1 (dN m) t t h (pJ rk cY).2) (aw .tt (aw .tt (aw .tt aL))) rfl (by decide) rfl λI a w U=>?_
        refine U.o (.c1 (HL _ (dw.nH h hw rj al rk cY).small)) λU=>?_
        refine ai λI a w U=>?_
        refine U.ret rfl (.cons (.sx 0) aX.nil) ?_
        exact(by unfold dm jW;rw[ah,if_pos rfl,if_neg al,if_pos aM,if_neg (Int.not_lt.2 aZ),if_pos cY];rfl)
       ·refine wp_skip<|aY<|wp_seq ?_
        obtain⟨I,U⟩:=U.fu 1 11 3
        obtain⟨I,U⟩:=U.fu 2 12 3
        refine aA λI a w U=>?_
        refine U.ret rfl (.cons (.sx 0) aX.nil) ?_
        exact(by unfold dm jW;rw[ah,if_pos rfl,if_neg al,if_pos aM,if_neg (Int.not_lt.2 aZ),if_neg (by rw[cY];simp)];rfl)
theorem ado (q:Call) (g n:Value) (m:aC) (t t0:Int) (h:dw q t0) (hm:bO m=true) (hv:m.kind=4/\(m.yes=true->m.ao.length=1/\(ab m.ao 0).key=m.key)) (jh:gU q.keys m.key=true):
 jK Tryz.prog 223 [q.yx g n,m.av,AV.int t] [Own.row g 45 9 (q.az.map Answer.cells),Own.row n 63 3 (q.aP.map au.cells)] [] (jW q m t).av:=by
 refine c7.intro 99 Tryz.func223 rfl Tryz.ntmps223 rfl (by kernel_rfl) (λW I a U=>?_)
 have oH:=h.lens
 have rk:=Db (q:=q) hm hv.2
 have D5:=fV (oB hm).1
 have hkx:(dN m).key=m.key:=rfl
 refine sr<|U.box rfl .tt λb3 I a w U=>U.o .bp λU=>U.alloc rfl dQ gD λb6 I a w U=>?_
 refine bt λI a w U=>?_
 refine U.o (.bd od (.k (.k bf.nil))) λU=>?_
 refine U.alloc rfl fj od λb7 I a w U=>?_
 refine U.sb 4 λU=>?_
 refine nn ?_
 refine St.cut (σ:=Unit) (run 8 14 []) ⟨λ_=>[],λ_=>[Own.row g 45 9 (q.az.map Answer.cells),Own.row n 63 3 (q.aP.map au.cells),Own.box b3 39 [AV.int q.an,AV.int q.num,AV.int q.kind,jg q.keys,AV.int q.val,bm q.ctx,AV.int q.bD,AV.int q.end_,AV.bool q.over,AV.int q.aq.time,AV.int q.aq.site,AV.val g,AV.val n],Own.box b6 39 [AV.val (.int .i64 0),AV.val (.int .i64 0),AV.val (.int .i64 0),AV.rows 1 [],AV.val (.int .i64 0),AV.rows 3 [],AV.val (.int .i64 0),AV.val (.int .i64 0),AV.val (.bool false),AV.val (.int .i64 0),AV.val (.int .i64 0),AV.rows 9 [],AV.rows 3 []],Own.box b7 45 (dN m).cells],λ_=>True⟩ U ?Be ?Bf
 case Be=>
  refine aA λI a w U=>?_
  refine cz (λae=>?_) λae=>?_
  ·refine aF λI a w U=>?_
   refine U.o (dS (i:=0) cJ bA .tt .c (λ_=>by have:=(hv.2 ae).1;omega)) λU=>?_
   refine U.o .la λU=>?_
   refine U.o (bY (w5 (ab m.ao 0) (by have:=gR (jk (gu (oB hm).1 _ (aV (l:=m.ao) (k:=0) (by have:=(hv.2 ae).1;omega)))).2.2;omega)) (aw (.t rfl) aL)) λU=>?_
   refine U.o .fv λU=>U.rv 4 bA .tt .tt rfl rfl rfl λa w U=>?_
   refine zt ?_
   have U:=U.pass (H':=[Own.row g 45 9 (q.az.map Answer.cells),Own.row n 63 3 (q.aP.map au.cells),Own.box b3 39 [AV.int q.an,AV.int q.num,AV.int q.kind,jg q.keys,AV.int q.val,bm q.ctx,AV.int q.bD,AV.int q.end_,AV.bool q.over,AV.int q.aq.time,AV.int q.aq.site,AV.val g,AV.val n],Own.box b6 39 [AV.val (.int .i64 0),AV.val (.int .i64 0),AV.val (.int .i64 0),AV.rows 1 [],AV.val (.int .i64 0),AV.rows 3 [],AV.val (.int .i64 0),AV.val (.int .i64 0),AV.val (.bool false),AV.val (.int .i64 0),AV.val (.int .i64 0),AV.rows 9 [],AV.rows 3 []],Own.box b7 45 (dN m).cells]) (by unfold dN;rw[ae];rfl)
   exact U.me () (by trivial)
  ·refine zt ?_
   have U:=U.pass (H':=[Own.row g 45 9 (q.az.map Answer.cells),Own.row n 63 3 (q.aP.map au.cells),Own.box b3 39 [AV.int q.an,AV.int q.num,AV.int q.kind,jg q.keys,AV.int q.val,bm q.ctx,AV.int q.bD,AV.int q.end_,AV.bool q.over,AV.int q.aq.time,AV.int q.aq.site,AV.val g,AV.val n],Own.box b6 39 [AV.val (.int .i64 0),AV.val (.int .i64 0),AV.val (.int .i64 0),AV.rows 1 [],AV.val (.int .i64 0),AV.rows 3 [],AV.val (.int .i64 0),AV.val (.int .i64 0),AV.val (.bool false),AV.val (.int .i64 0),AV.val (.int .i64 0),AV.rows 9 [],AV.rows 3 []],Own.box b7 45 (dN m).cells]) (by unfold dN;rw[ae];rfl)
   exact U.me () (by trivial)
 case Bf=>
  rintro _ I a w aj U
  refine bk λI a w U=>?_
  refine U.o (Lp (cs:=[AV.int q.an,AV.int q.num,AV.int q.kind,jg q.keys,AV.int q.val,bm q.ctx,AV.int q.bD,AV.int q.end_,AV.bool q.over,AV.int q.aq.time,AV.int q.aq.site,.val g,.val n]) 0 11 (aw .tt (aw .tt aL)) rfl rfl (YN q n m.key) (λ_ _ _ h=>h)) λU=>?_
  refine dD λI a w U=>?_
  refine U.q .T (.cl (vf ..)) λU=>?_
  refine aA λI a w U=>?_
  refine U.cd (λah=>?_) λah=>?_
  ·have hn9:cv q m.key<0:=by simp only[Bool.and_eq_true,decide_eq_true_eq] at ah;exact ah.1
   have bj:∀y∈q.az,y.key≠(dN m).key:=λy hy e=>by have:=DB.2 ⟨y,hy,e⟩;have e2:(dN m).key=m.key:=rfl;rw[e2] at this;omega
   have ec:∀y∈cR q.az (dN m),dB y=true:=λy hy=>(qL.1 hy).elim (λe=>e▸rk) (h.aW y)
   refine ai λI a w U=>?_
   refine St.lo (σ:=Nat) (8::(run 18 35 [])) ⟨λk=>[(8,AV.int k)],λk=>[Own.row g 45 9 (q.az.map Answer.cells),Own.row n 63 3 (q.aP.map au.cells),Own.box b3 39 [AV.int q.an,AV.int q.num,AV.int q.kind,jg q.keys,AV.int q.val,bm q.ctx,AV.int q.bD,AV.int q.end_,AV.bool q.over,AV.int q.aq.time,AV.int q.aq.site,AV.val g,AV.val n],Own.box b6 39 [AV.val (.int .i64 0),AV.val (.int .i64 0),AV.val (.int .i64 0),AV.rows 1 [],AV.val (.int .i64 0),AV.rows 3 [],AV.val (.int .i64 0),AV.val (.int .i64 0),AV.val (.bool false),AV.val (.int .i64 0),AV.val (.int .i64 0),AV.rows 9 [],AV.rows 3 []],Own.box b7 45 (dN m).cells],λk=>k<=q.az.length/\∀i,i<k->(ab q.az i).key<m.key⟩ (λk=>q.az.length-k) 0 U ?aJ ?aK
   case aJ=>exact⟨Nat.zero_le _,λi hi=>by omega⟩
   case aK=>
    rintro k I a w aj U
    obtain⟨hk,aN⟩:=aj
    refine wp_seq<|wp_seq<|U.dk ?_
    refine cD ?_
    refine .o (rz 0 iI .tt rfl) ?_
    refine fi ?_
    refine .q .T (Aj 0 iI fj .ag .ag rfl (λhg=>by simp at hg;simp;omega)) ?_
    refine bn ?_
    refine .q .T (Mf 0 gO .ag rfl (λhg=>by simp at hg;rw[List.getElem?_map,KS (by omega)];rfl) rfl rfl rfl) ?_
    refine dq ?_
    refine .nil ?_
    intro I a w U
    refine aY ?_
    refine cz (λal=>?_) λal=>?_
    ·rw[List.length_map,Int.toNat_natCast] at al
     refine aI λI a w U=>?_
     exact U.ag (k+1) (⟨by omega,λi h1=>by rcases Nat.lt_succ_iff_lt_or_eq.1 h1 with h|h;exact aN i h;rw[h];exact al.2⟩)
    ·rw[List.length_map,Int.toNat_natCast] at al
     refine zt ?_
     refine bt λI a w U=>?_
     refine U.o (.li [(dN m).cells] uR (.u .nil)) λU=>?_
     refine U.eT [0] (ZN g (q.az.map Answer.cells) (dN m).cells k (by rw[List.length_map];exact hk) (by rw[List.length_map];omega) (λr hr=>by obtain⟨u,_,rfl⟩:=List.mem_map.1 hr;rfl) rfl) (aw .r (aw .tt (aw .r aL))) rfl (by decide) rfl λI a w U=>?_
     rw[<-List.map_take,<-List.map_drop,<-List.map_cons,<-List.map_append,Pz (a:=dN m) hk aN (λhl=>by rcases al with h4|h4;omega;exact Int.not_lt.2 h4) bj] at U
     refine bk λI a w U=>?_
     refine U.o (.c1 (Yb {q with az:=cR q.az (dN m)} n)) λU=>?_
     refine ai λI a w U=>?_
     refine cz (λaH=>?_) λaH=>?_
     ·refine wp_seq ?_
      have U:=U.nf
      obtain⟨I,U⟩:=U.fu 1 12 2
      refine aA λI a w U=>?_
      refine U.de () [] rfl (.cons (.sx 3) .nil) trivial rfl ?_
      exact(by rw[acd h hv jh ah aH];rfl)
     ·refine wp_skip<|aY ?_
      have U:=U.nf
      refine bH λI a w U=>?_
      refine U.o (bY (aaJ {q with az:=cR q.az (dN m)} n ec (by show(cR q.az _).length<=_;rw[w8];omega)) (aw (.t rfl) aL)) λU=>?_
      refine aA λI a w U=>?_
      have U:=U.nf
      refine aU λI a w U=>?_
      refine cz (λaM=>?_) λaM=>?_
      ·refine ck λI a w U=>?_
       refine U.de () [] rfl (.cons (.sx 3) .nil) trivial rfl ?_
       exact(by rw[QV h hv jh ah aH,if_pos (List.length_eq_zero_iff.1 (by omega))];rfl)
      ·refine aA λI a w U=>?_
       refine U.de () [] rfl (.cons (.sx 3) .nil) trivial rfl ?_
       exact(by rw[QV h hv jh ah aH,if_neg (λe=>by rw[e] at aM;simp at aM)];rfl)
  ·refine wp_seq<|U.dk ?_
   refine oY ?_
   refine .q .T (EJ 4 bA .ag rfl rfl rfl) ?_
   refine .q .T (.cl (mS ..)) ?_
   refine .q .T (Cf 1 (aw .ag (aw .ag aL)) rfl (AY q.aP (dN m).be.aT) (λ_ _ _ h=>h)) ?_
   refine bT ?_
   refine .nil ?_
   intro I a w U
   refine aY ?_
   refine U.cd (λbh=>?_) λbh=>?_
   ·have p7:0<=cv q m.key:=by simp only[Bool.and_eq_true,decide_eq_true_eq] at bh;exact bh.1.1
    obtain⟨uh,su⟩:=xk p7
    obtain⟨bg,Ri,eg⟩:=U.j7 0 rfl (by simp only[List.length_map];omega)
    subst eg
    refine bt λI a w U=>?_
    refine U.o (Aj 0 iI fj .tt .tt rfl (λ_=>by simp;omega)) λU=>?_
    refine U.lX 0 fj .tt .tt rfl (by exact fG (by omega)) rfl rfl λa w U=>?_
    refine wpList_nil ?_
    have e9:∀y,y=(dN m).cells->(List.map Answer.cells q.az).set (cv q m.key).toNat y=List.map Answer.cells (q.az.set (cv q m.key).toNat (dN m)):=λy hy=>by rw[hy,List.map_set]
    rw[e9] at U
    rotate_left
    ·rfl
    obtain⟨I,U⟩:=U.fu 0 11 2
    refine aF λI a w U=>?_
    refine U.o (mN (aw .tt aL)) λU=>?_
    refine U.cG [1,3] (HH n q.aP (λd=>decide (d.key=m.key)) _ (Own.box b6 39 [AV.val (.int .i64 0),AV.val (.int .i64 0),AV.val (.int .i64 0),AV.rows 1 [],AV.val (.int .i64 0),AV.rows 3 [],AV.val (.int .i64 0),AV.val (.int .i64 0),AV.val (.bool false),AV.val (.int .i64 0),AV.val (.int .i64 0),AV.rows 9 [],AV.rows 3 []]) (by omega) (λd hd=>lW.frame (Fn.val (gM:=[AV.ptr m.cells]) (Xv m d)))) (aw .r (aw .tt aL)) rfl (by decide) rfl λv90 I a w ak0 U=>?_
    refine U.o .fv λU=>?_
    try have ak1:=U.eJ 1 rfl
    refine ai λI a w U=>?_
    have U:=U.nf
    obtain⟨I,U⟩:=U.fu 1 12 2
    have U:=U.nf
    refine aU λI a w U=>?_
    refine cz (λaZ=>?_) λaZ=>?_
    ·refine ck λI a w U=>?_
     refine U.de () [] rfl (.cons (.sx 3) .nil) trivial rfl ?_
     exact(by rw[QW h rk hv bh,if_pos (List.length_eq_zero_iff.1 (by simpa using aZ))];rfl)
    ·refine aA λI a w U=>?_
     refine U.de () [] rfl (.cons (.sx 3) .nil) trivial rfl ?_
     exact(by rw[QW h rk hv bh,if_neg (λe=>by rw[e] at aZ;simp at aZ)];rfl)
   ·refine wp_seq ?_
    have U:=U.nf
    obtain⟨I,U⟩:=U.fu 0 11 2
    obtain⟨I,U⟩:=U.fu 1 12 2
    refine aA λI a w U=>?_
    refine U.de () [] rfl (.cons (.sx 3) .nil) trivial rfl ?_
    exact(by rw[ace hv ah bh];rfl)
theorem adp (x:aE) (m:aC) (hg:cx x) (ht:x.time<=1000000) (ke:aQ m.to 10 11=true):
 Fn Tryz.prog 176 [x.av,m.av] ((mb x m).av):=by
 refine Fn.go 52 Tryz.func176 Tryz.ntmps176 (λW I a U=>?_)
 simp only[aQ,Bool.and_eq_true,decide_eq_true_eq] at ke
 have oH:=hg.lens
 have za:=hg.seen
 have zb:=hg.time
 refine sr<|U.box rfl .tt λb2 I a w U=>U.o .bp λU=>U.alloc rfl df dz λb4 I a w U=>?_
 refine gz λI a w U=>?_
 refine U.o (.cl (CG x.calls (m.to-10))) λU=>?_
 refine aI λI a w U=>?_
 refine cz (λae=>?_) λae=>?_
 ·refine aA λI a w U=>?_
  refine U.ret rfl (.cons (.sx 1) aX.nil) ?_
  exact(by unfold mb;dsimp only;rw[if_pos ae];rfl)
 ·obtain⟨h1,h2,h3⟩:=qu ae;have hq:=y9 (m:=m) (hg.call h1);have hqe:=hq.Bh (by omega);have Li:=hq.bD
  refine zt ?_
  refine U.da 10 ?_
  simp only[TD]
  refine nx ?_
  refine .o (.c3 (adl _ m x.time (hg.call h1) ht))<|gj.alloc dQ gD<|.nil ?_
  intro I a w U
  obtain⟨b7,U⟩:=U.tm (d:=7) rfl
  refine ai λI a w U=>?_
  obtain⟨I,U⟩:=U.fb 2 7
  refine U.l0 λb27 I a w U=>?_
  refine aF λI a w U=>?_
  refine U.ap 3 λv30 a w U=>?_
  simp only[List.nil_append] at U
  refine U.o .fv λU=>?_
  try have ak4:=U.eJ 3 rfl
  refine ai λI a w U=>?_
  obtain⟨Bl,Bm,ri⟩:=U.j7 3 rfl (by simp only[List.length_map];omega)
  subst ri
  refine bt λI a w U=>?_
  refine U.o (jr mB dQ .tt .tt (λ_=>by simp only[List.length_map];omega)) λU=>?_
  refine U.lX 3 dQ .tt .tt rfl (by exact fG (by omega)) rfl rfl λa w U=>?_
  refine nn ?_
  refine St.cut (σ:=List (List au)) (run 14 37 []) ⟨λsn=>[],λsn=>[Own.box b2 30 [AV.int x.time,bR x.ax,bq x.ar,bK (x.calls.set (cq x.calls (m.to-10)).toNat (dm (ab x.calls (cq x.calls (m.to-10)).toNat) m x.time)),bQ sn],Own.box b4 30 [AV.val (.int .i64 0),AV.rows 7 [],AV.rows 15 [],AV.rows 13 [],AV.rows 1 []],Own.gone,Own.gone],λsn=>sn=if 0<Call.end_ (dm (ab x.calls (cq x.calls (m.to-10)).toNat) m x.time) then x.seen.set (m.to-10).toNat (dP (dm (ab x.calls (cq x.calls (m.to-10)).toNat) m x.time)) else x.seen⟩ U ?IW ?IX
  case IW=>
   refine wp_seq ?_
   have e9:∀y,y=Call.cells (dm (ab x.calls (cq x.calls (m.to-10)).toNat) m x.time)->(List.map Call.cells x.calls).set (cq x.calls (m.to-10)).toNat y=List.map Call.cells (x.calls.set (cq x.calls (m.to-10)).toNat (dm (ab x.calls (cq x.calls (m.to-10)).toNat) m x.time)):=λy hy=>by rw[hy,List.map_set]
   rw[e9] at U
   rotate_left
   ·rfl
   obtain⟨I,U⟩:=U.fu 3 3 0
   refine aI λI a w U=>?_
   refine cz (λah=>?_) λah=>?_
   ·refine zt ?_
    refine U.l0 λb40 I a w U=>?_
    refine aF λI a w U=>?_
    refine U.ap 4 λDF a w U=>?_
    simp only[List.nil_append] at U
    refine U.o .fv λU=>?_
    try have aan:=U.eJ 4 rfl
    refine ai λI a w U=>?_
    obtain⟨bk2,ck2,ek2⟩:=U.j7 4 rfl (by simp only[List.length_map];omega)
    subst ek2
    refine U.dt 6 ?_
    simp only[TD]
    refine dq ?_
    refine .o (bY (abp (dm (ab x.calls (cq x.calls (m.to-10)).toNat) m x.time) x.time (pZ.2 hq) (by omega) (by omega) (by have:=hq.lens.2.2.2.2.1;omega)) (aw (.t rfl) aL)) ?_
    refine .o (jr wx oc .tt .tt (λ_=>by simp only[List.length_map];omega)) ?_
    refine .nil ?_
    intro I a w U
    refine U.zP (j:=0) 4 oc .tt .tt (by first|exact jR rfl|exact j0|exact j1|exact j6|assumption) rfl (by exact fG (by omega)) rfl rfl λa w U=>?_
    refine wpList_nil ?_
    have e8:∀y,y=fE (dP (dm (ab x.calls (cq x.calls (m.to-10)).toNat) m x.time))->(List.map fE x.seen).set (m.to-10).toNat y=List.map fE (x.seen.set (m.to-10).toNat (dP (dm (ab x.calls (cq x.calls (m.to-10)).toNat) m x.time))):=λy hy=>by rw[hy,List.map_set]
    rw[e8] at U
    rotate_left
    ·rfl
    obtain⟨I,U⟩:=U.fu 4 4 0
    refine aY ?_
    have U:=U.drop 4
    exact U.me (x.seen.set (m.to-10).toNat (dP (dm (ab x.calls (cq x.calls (m.to-10)).toNat) m x.time))) (by first|exact(if_pos ah).symm|exact(if_neg (by omega)).symm)
   ·refine zt ?_
    have U:=U.drop 4
    exact U.me x.seen (by first|exact(if_pos ah).symm|exact(if_neg (by omega)).symm)
  case IX=>
   rintro sn I a w aj U
   have Rn:sn=if 0<Call.end_ (dm (ab x.calls (cq x.calls (m.to-10)).toNat) m x.time) then x.seen.set (m.to-10).toNat (dP (dm (ab x.calls (cq x.calls (m.to-10)).toNat) m x.time)) else x.seen:=aj
   refine aA λI a w U=>?_
   refine U.ret rfl (.cons (.sx 1) aX.nil) ?_
   unfold mb;dsimp only;rw[if_neg (by omega)]
   split
   ·rename_i hh;rw[Rn,if_pos hh];rfl
   ·rename_i hh;rw[Rn,if_neg hh];rfl
theorem adr (b:Nat) (x:aE) (e:Ev) (s r q z:Value) (hg:cx x) (ht:x.time<=1000000):
 c7 Tryz.prog 124 [AV.val (.pointer (some ⟨b,0,none⟩)),e.av] (x.full b s r q z) (λ_:Value=>True) (λu=>bif (kQ x e).2 then(kQ x e).1.full b s r u z else[]) (λ_=>AV.bool (kQ x e).2):=by
 refine c7.intro 114 Tryz.func124 rfl Tryz.ntmps124 rfl (by kernel_rfl) (λW I a U=>?_)
 change St _ _ [Own.box b 30 [AV.int x.time,AV.val s,AV.val r,AV.val q,AV.val z],Own.row s 61 7 (x.ax.map Server.cells),Own.row r 70 15 (x.ar.map aC.cells),Own.row q 39 13 (x.calls.map Call.cells),Own.row z 34 1 (x.seen.map fE)] _ _ _ at U
 have oH:=hg.lens
 have za:=hg.seen
 have zb:=hg.time
 refine bt λI a w U=>?_
 refine U.o (.c1 (Av ..)) λU=>?_
 refine bM λI a w U=>?_
 refine U.q .F (Ci (xs:=[AV.val (.pointer (some ⟨b,0,none⟩)),AV.int e.an]) (rM:=[AV.ptr [AV.int x.time,AV.val s,AV.val r,bK x.calls,AV.val z],AV.int e.an]) (Hn x.calls x.time s r z e.an) (aw .ag (aw .ag aL)) (λc I a w U=>by obtain⟨I,U⟩:=U.fu 3 3 0;obtain⟨I,U⟩:=U.fb 0 0;exact⟨_,_,_,U,rfl,rfl,trivial⟩)) λU=>?_
 refine aA λI a w U=>?_
 refine U.cd (λae=>?_) λae=>?_
 ·rw[MM] at ae;replace ae:=nt ae
  refine ai λI a w U=>?_
  refine U.de (.bool false) [] rfl (.cons (.t rfl) .nil) trivial (by rw[H4 ae];rfl) (by rw[H4 ae];rfl)
 ·rw[MM] at ae;replace ae:=nf ae;have D2:=ae;simp only[ff,aQ,Bool.and_eq_true,decide_eq_true_eq] at D2
  refine zt ?_
  have U:=U.fT
  have U:=U.fT
  have U:=U.fT
  refine U.z9 22 _ [([],none),([],none),([],none),([],none),([],none),([],none),([6],some (6,[26])),([],none),([],none),([],none),([0],none),([],none),([],none),([4],none),([4],none),([],none),([],none),([],none),([],none),([0],none),([7],some (7,[40,26])),([5],some (5,[5]))] rfl (by kernel_rfl) (by kernel_rfl) rfl ?_
  simp only[TD]
  refine fK ?_
  refine aS.Cg (js:=[[AV.int e.a]]) 6 rfl rfl ju gO rfl uP rfl rfl rfl (bf.c rfl rfl .tt (by first|exact jR rfl|exact j0|exact j1|exact j6|assumption) bf.nil) rfl rfl (by simp only[List.forall_mem_cons];exact⟨rfl,λ_ h=>by simp at h⟩) rfl ?_
  refine cD ?_
  refine .r [0] (.lb 0) ?_
  refine bT ?_
  refine .r [4] (Aj 4 wx oc .tt .tt rfl (λ_=>by rw[List.length_map];omega)) ?_
  refine .r [4] (Mf (j:=0) 4 oc .tt rfl (λ_=>by exact fG (by omega)) rfl rfl rfl) ?_
  refine .o (bY (tN (ab x.seen e.an.toNat) (by have:=hg.P3 (i:=e.an.toNat) (by omega);omega)) (aw .r aL)) ?_
  refine cD ?_
  refine .r [0] (.lb 0) ?_
  refine aS.F1 7 [26] (λa=>AV.agg [AV.int e.an,AV.int 1,AV.int e.call,AV.val (a.tmps.getD 26 undef),AV.int 0,bm (ab x.seen e.an.toNat),AV.int x.time,AV.int 0,AV.bool false,AV.int 0,AV.int 0,AV.rows 9 [],AV.rows 3 []]) rfl rfl rfl rfl (λa b h=>by simp only[List.forall_mem_cons] at h;simp only[h]) rfl (λF a I he=>Ok.to (.bd gD (.k (.k (.k (bf.c VC rfl .tt (wy (t:=26) he) (.k (.k bf.nil)))))))) ?_
  refine aS.alloc 5 rfl rfl dQ gD<|.nil ?_
  intro I a w U
  obtain⟨b5,U⟩:=U.lC (d:=5) 5 rfl rfl
  change St _ _ [Own.box b 30 [AV.int x.time,AV.val s,AV.val r,AV.val q,AV.val z],Own.row s 61 7 (x.ax.map Server.cells),Own.row r 70 15 (x.ar.map aC.cells),Own.row q 39 13 (x.calls.map Call.cells),Own.row z 34 1 (x.seen.map fE),Own.box b5 39 _,Own.row (a.tmps.getD 26 undef) 3 1 [[AV.int e.a]],Own.is (AV.agg [AV.int e.an,AV.int 1,AV.int e.call,AV.val (a.tmps.getD 26 undef),AV.int 0,bm (ab x.seen e.an.toNat),AV.int x.time,AV.int 0,AV.bool false,AV.int 0,AV.int 0,AV.rows 9 [],AV.rows 3 []]) (a.tmps.getD 40 undef)] _ _ _ at U
  have U:=U.F3 (d:=40) 7 rfl
  have U:=U.drop 7
  generalize a.tmps.getD 26 undef=xo at U
  show wpList _ _ _ _ _ _
  refine bM λI a w U=>?_
  refine U.o (rz 3 mB .tt rfl) λU=>?_
  refine ai λI a w U=>?_
  refine St.lo (σ:=Nat×Int) (7::(run 14 46 [])) ⟨λ⟨k,nm⟩=>[(46,AV.int k)],λ⟨k,nm⟩=>[Own.box b 30 [AV.int x.time,AV.val s,AV.val r,AV.val q,AV.val z],Own.row s 61 7 (x.ax.map Server.cells),Own.row r 70 15 (x.ar.map aC.cells),Own.row q 39 13 (x.calls.map Call.cells),Own.row z 34 1 (x.seen.map fE),Own.box b5 39 [AV.int e.an,AV.int nm,AV.int e.call,AV.val xo,AV.int 0,bm (ab x.seen e.an.toNat),AV.int x.time,AV.int 0,AV.bool false,AV.int 0,AV.int 0,AV.rows 9 [],AV.rows 3 []],Own.row xo 3 1 [[AV.int e.a]]],λ⟨k,nm⟩=>k<=x.calls.length/\nm=gn x.calls k e.an+1⟩ (λ⟨k,nm⟩=>x.calls.length-k) (0,1) U ?aJ ?aK
  case aJ=>exact⟨Nat.zero_le _,by rw[GK];rfl⟩
  case aK=>
   rintro⟨k,nm⟩ I a w aj U
   obtain⟨hk,D6⟩:=aj
   have Ro:=CU x.calls k e.an
   dsimp only at U
   refine ai λI a w U=>?_
   refine cz (λah=>?_) λah=>?_
   ·rw[List.length_map] at ah
    refine zt ?_
    refine U.o (Aj 3 mB dQ .tt .tt rfl (λ_=>by rw[List.length_map];omega)) λU=>?_
    refine U.o (Mg 3 dQ .tt rfl (λ_=>by exact fG ah) rfl) λU=>?_
    refine U.alloc rfl dQ gD λb7 I a w U=>?_
    refine U.sb 7 λU=>?_
    obtain⟨I,U⟩:=U.fb 7 7
    refine ck λI a w U=>?_
    refine cz (λal=>?_) λal=>?_
    ·rw[Int.toNat_natCast] at al
     refine bt λI a w U=>?_
     refine U.s1 5 λU=>?_
     refine aA λI a w U=>?_
     have U:=U.drop 7
     exact U.ag (k+1,nm+1) (⟨ah,by show nm+1=_;rw[r7 ah,if_pos al,D6]⟩)
    ·rw[Int.toNat_natCast] at al
     refine aA λI a w U=>?_
     have U:=U.drop 7
     exact U.ag (k+1,nm) (⟨ah,by show nm=_;rw[r7 ah,if_neg al,D6]⟩)
   ·rw[List.length_map] at ah
    refine wp_exit<|cN<|cN<|gw<|aY ?_
    refine St.cut (σ:=Int) (run 6 60 []) ⟨λval=>[],λval=>[Own.box b 30 [AV.int x.time,AV.val s,AV.val r,AV.val q,AV.val z],Own.row s 61 7 (x.ax.map Server.cells),Own.row r 70 15 (x.ar.map aC.cells),Own.row q 39 13 (x.calls.map Call.cells),Own.row z 34 1 (x.seen.map fE),Own.box b5 39 [AV.int e.an,AV.int (tK x.calls e.an+1),AV.int e.call,AV.val xo,AV.int val,bm (ab x.seen e.an.toNat),AV.int x.time,AV.int 0,AV.bool false,AV.int 0,AV.int 0,AV.rows 9 [],AV.rows 3 []],Own.row xo 3 1 [[AV.int e.a]]],λval=>val=if e.call=1 then e.val else 0⟩ U ?IQ ?IS
    case IQ=>
     refine wp_seq ?_
     rw[show k=x.calls.length by omega,<-acF hg] at D6
     subst D6
     refine aI λI a w U=>?_
     refine cz (λaH=>?_) λaH=>?_
     ·refine bk λI a w U=>?_
      refine U.s1 5 λU=>?_
      refine zt ?_
      exact U.me e.val (by first|exact(if_pos aH).symm|exact(if_neg aH).symm)
     ·refine zt ?_
      exact U.me 0 (by first|exact(if_pos aH).symm|exact(if_neg aH).symm)
    case IS=>
     rintro val I a w aj U
     have cr:val=if e.call=1 then e.val else 0:=aj
     subst cr
     refine St.cut (σ:=Unit) (run 29 66 []) ⟨λ_=>[],λ_=>[Own.box b 30 [AV.int x.time,AV.val s,AV.val r,AV.val q,AV.val z],Own.row s 61 7 (x.ax.map Server.cells),Own.row r 70 15 (x.ar.map aC.cells),Own.row q 39 13 (x.calls.map Call.cells),Own.row z 34 1 (x.seen.map fE),Own.box b5 39 [AV.int e.an,AV.int (tK x.calls e.an+1),AV.int e.call,jg (mE e),AV.int (if e.call=1 then e.val else 0),bm (ab x.seen e.an.toNat),AV.int x.time,AV.int 0,AV.bool false,AV.int 0,AV.int 0,AV.rows 9 [],AV.rows 3 []],Own.gone],λ_=>True⟩ U ?IY ?IZ
     case IY=>
      refine wu λI a w U=>?_
      refine U.cd (λaM=>?_) λaM=>?_
      ·refine bt λI a w U=>?_
       refine U.o (.li [[AV.int e.b]] uP (.v .nil)) λU=>?_
       refine U.append 6 rfl ju gO rfl .tt .r rfl (by simp) λv81 a w U=>?_
       refine U.o .fv λU=>?_
       try have ak9:=U.eJ 6 rfl
       refine U.s1 5 λU=>?_
       refine ck λI a w U=>?_
       refine cz (λbh=>?_) λbh=>?_
       ·refine bt λI a w U=>?_
        refine U.o (.li [[AV.int e.c]] uP (.v .nil)) λU=>?_
        refine U.append 6 rfl ju gO rfl .tt .r rfl (by simp) λv93 a w U=>?_
        refine U.o .fv λU=>?_
        try have alb:=U.eJ 6 rfl
        refine U.s1 5 λU=>?_
        refine zt ?_
        obtain⟨I,U⟩:=U.fu 6 3 5
        have U:=U.pass (H':=[Own.box b 30 [AV.int x.time,AV.val s,AV.val r,AV.val q,AV.val z],Own.row s 61 7 (x.ax.map Server.cells),Own.row r 70 15 (x.ar.map aC.cells),Own.row q 39 13 (x.calls.map Call.cells),Own.row z 34 1 (x.seen.map fE),Own.box b5 39 [AV.int e.an,AV.int (tK x.calls e.an+1),AV.int e.call,jg (mE e),AV.int (if e.call=1 then e.val else 0),bm (ab x.seen e.an.toNat),AV.int x.time,AV.int 0,AV.bool false,AV.int 0,AV.int 0,AV.rows 9 [],AV.rows 3 []],Own.gone]) (by first|(rw[D1 aM bh];rfl)|(rw[D0 aM (by simpa using bh)];rfl)|(rw[DZ aM];rfl))
        exact U.me () (by trivial)
       ·refine zt ?_
        obtain⟨I,U⟩:=U.fu 6 3 5
        have U:=U.pass (H':=[Own.box b 30 [AV.int x.time,AV.val s,AV.val r,AV.val q,AV.val z],Own.row s 61 7 (x.ax.map Server.cells),Own.row r 70 15 (x.ar.map aC.cells),Own.row q 39 13 (x.calls.map Call.cells),Own.row z 34 1 (x.seen.map fE),Own.box b5 39 [AV.int e.an,AV.int (tK x.calls e.an+1),AV.int e.call,jg (mE e),AV.int (if e.call=1 then e.val else 0),bm (ab x.seen e.an.toNat),AV.int x.time,AV.int 0,AV.bool false,AV.int 0,AV.int 0,AV.rows 9 [],AV.rows 3 []],Own.gone]) (by first|(rw[D1 aM bh];rfl)|(rw[D0 aM (by simpa using bh)];rfl)|(rw[DZ aM];rfl))
        exact U.me () (by trivial)
      ·refine zt ?_
       obtain⟨I,U⟩:=U.fu 6 3 5
       have U:=U.pass (H':=[Own.box b 30 [AV.int x.time,AV.val s,AV.val r,AV.val q,AV.val z],Own.row s 61 7 (x.ax.map Server.cells),Own.row r 70 15 (x.ar.map aC.cells),Own.row q 39 13 (x.calls.map Call.cells),Own.row z 34 1 (x.seen.map fE),Own.box b5 39 [AV.int e.an,AV.int (tK x.calls e.an+1),AV.int e.call,jg (mE e),AV.int (if e.call=1 then e.val else 0),bm (ab x.seen e.an.toNat),AV.int x.time,AV.int 0,AV.bool false,AV.int 0,AV.int 0,AV.rows 9 [],AV.rows 3 []],Own.gone]) (by first|(rw[D1 aM bh];rfl)|(rw[D0 aM (by simpa using bh)];rfl)|(rw[DZ aM];rfl))
       exact U.me () (by trivial)
     case IZ=>
      rintro _ I a w aj U
      refine wp_seq ?_
      obtain⟨I,U⟩:=U.fu 3 3 0
      refine U.da 7 ?_
      simp only[TD]
      refine dq ?_
      refine gj.oW (Xz x.calls (by omega)) (aw .r aL) ?_
      refine bn ?_
      refine .o (.li [(jx x e).cells] Cq (.u .nil)) ?_
      refine .nil ?_
      intro I a w U
      obtain⟨v99,U⟩:=U.Ce (d:=99)
      refine U.ap 7 λads a w U=>?_
      rw[cA] at U
      refine dD λI a w U=>?_
      refine U.o (Cf 7 (aw .tt (aw .tt aL)) rfl (Q5 (x.calls++[jx x e]) x.time (by omega) (by simp;omega) (λq hq=>ack hg D2.1 hq)) (λ_ _ _ h=>h)) λU=>?_
      refine ai λI a w U=>?_
      refine U.cd (λaZ=>?_) λaZ=>?_
      ·replace aZ:=nt aZ
       refine ai λI a w U=>?_
       refine U.de (.bool false) [] rfl (.cons (.t rfl) .nil) trivial (by rw[A7 ae,aZ];rfl) (by rw[A7 ae,aZ];rfl)
      ·replace aZ:=nf aZ
       refine bt λI a w U=>?_
       try have ald:=U.eJ 7 rfl
       refine aA λI a w U=>?_
       refine U.de ads [0,1,2,7,4] rfl (.cons (.t rfl) .nil) trivial (by rw[A7 ae,aZ];rfl) (by rw[A7 ae,aZ];rfl)
theorem I4 (l:List Ev) (k:Nat):ey (wK l k)=true:=by
 have key:∀(m:List Ev) (x:aE),ey x=true->ey (m.foldl (λw e=>(fQ w e).1) x)=true:=by
  intro m
  induction m with
  |nil=>exactλx h=>h
  |cons e r ih=>
   intro x h
   rw[List.foldl_cons]
   exact ih _ (by unfold fQ;rw[if_pos h];exact Bn h e)
 exact key _ _ A9
theorem Reach.aW {w:aE} (h:Reach w):cx w:=by
 induction h with
 |start=>exact(ko.1 A9).1
 |step _ aj ih=>exact Rl ih _ aj
theorem cO.ar {n:Nat} {s:dR} (h:cO n s):s.w.ar.length<=60:=h.reach.aW.ar
theorem adt {w:aE} {e:Ev} (h:ey w=true) (ht:¬99999<=w.time) (hd:(ez w e).2=true):cx (ez w e).1:=by
 have:=Bn h e
 unfold fP at this
 rw[if_pos ⟨by omega,hd⟩] at this
 exact(ko.1 this).1
structure Inv (w:aE):Prop where
 aW:cx w
 fits:∀i,i<4->∀k,k<3->lO (ab (sv w i).aG k) (ab (sv w (bW i)).aG k)=true
 pj:∀i,i<4->∀v∈(sv w i).ao,behind (sv w i) (sv w (bW i)) (vk v)->v∈(sv w (bW i)).ao
 rl:∀i,i<4->∀v∈(sv w i).waits,behind (sv w i) (sv w (bW i)) (vk v)->v∈(sv w (bW i)).ao\/v∈(sv w (bW i)).waits
 Bp:∀i,i<4->∀v∈(sv w i).ao,∀d∈v.aO,∃u,u.aT=d/\bU w (i/2) u
 pk:∀i,i<4->∀v∈(sv w i).waits,bU w (1-i/2) v
 bl:∀i,i<4->∀d∈(sv w i).bl,∃u,u.aT=d/\bU w (i/2) u
 aD:∀i,i<4->∀d∈(sv w i).aD,bL d.aq.site=((i/2:Nat):Int)
 p8:∀i,i<4->∀v∈(sv w i).ao,bL v.aq.site=((i/2:Nat):Int)->¬behind (sv w i) (sv w (bW i)) (vk v)->v.aT∈(sv w i).aD\/nI w (1-i/2) v
 home:∀σ v,bU w σ v->bL v.aq.site=v.an/\bU w v.an.toNat v
 uniq:∀σ τ u v,bU w σ u->bU w τ v->u.aT=v.aT->u=v
 once:∀σ τ u v,bU w σ u->bU w τ v->u.an=v.an->u.call=v.call->u=v
 made:∀σ v,bU w σ v->∃q∈w.calls,q.an=v.an/\q.num=v.call/\q.kind=1/\ab q.keys 0=v.key/\q.val=v.val/\q.ctx=v.aO
 done:∀q∈w.calls,q.kind=1->q.end_≠0->∃v,bU w q.an.toNat v/\v.an=q.an/\v.call=q.num/\v.key=ab q.keys 0/\v.aq=q.aq
 ctx:∀q∈w.calls,m6 w q.an.toNat q.ctx
 seen:∀k,k<2->m6 w k (ab w.seen k)
 az:∀q∈w.calls,nb w q
 jD:∀i,i<w.calls.length->dP (ab w.calls i)=mC w i
 fresh:∀k:Nat,k<2->(∀q∈w.calls,q.an≠(k:Int))->ab w.seen k=[]
 words:∀m∈w.ar,eN w m
theorem Inv.dj {w:aE} (h:Inv w) {i:Nat} (hi:i<4):bF (sv w i):=(h.aW.site i hi).2
theorem Inv.site {w:aE} (h:Inv w) {i:Nat} (hi:i<4):(sv w i).site=(i:Int):=(h.aW.site i hi).1
theorem nI.ee {w:aE} (h:Inv w) {σ:Nat} {v:aB} (hc:nI w σ v):∃τ,bU w τ v:=by
 obtain⟨i,hi,e,hv|hv⟩:=hc
 ·exact⟨_,i,hi,e,hv⟩
 ·exact⟨_,h.pk i hi v hv⟩
end Go.Proofs.YtjepcfpkclegdaaGreat
