/- Part 22: contracts of functions, plain facts. -/
import Derived.Test.YtjepcfpkclegdaaGreatP18
import Derived.Test.YtjepcfpkclegdaaGreatP19
import Derived.Test.YtjepcfpkclegdaaGreatP20
set_option linter.unusedVariables false
set_option linter.unusedSimpArgs false
set_option maxRecDepth 100000
set_option maxHeartbeats 4000000
namespace Go.Proofs.YtjepcfpkclegdaaGreat
open Go Go.RowKit
attribute [local irreducible] wpList Code.wp Ok
theorem dw.later {q:Call} {t t':Int} (h:dw q t) (ht:t<=t'):dw q t':=pZ.1 (Z0 (pZ.2 h) ht)
theorem acs {q:Call} {t:Int} (h:dw q t):∀m∈asks q,(m.kind=1\/m.kind=3)/\dp m.key=true/\kx m.aq=true/\(0<=m.val/\m.val<=9999)/\bN m.aO=true/\m.slot=0/\m.bz=0/\m.ao=[]/\m.waits=[]/\m.aD=[]:=by
 have hk:lI q.keys=true:=by have:=h.keys;simp only[iZ,Bool.and_eq_true] at this;exact this.1
 unfold asks
 split
 ·intro m hm
  obtain rfl:m=_:=by simpa using hm
  have h1:q.keys.length=1:=by
   have:=h.keys;rename_i e;simp[iZ,e] at this;omega
  exact⟨.inl rfl,yv hk (aV (by omega)),An,h.val,h.ctx,rfl,rfl,rfl,rfl,rfl⟩
 ·intro m hm
  rcases List.mem_append.1 hm with hm|hm
  ·obtain⟨k,II,rfl⟩:=List.mem_map.1 hm
   exact⟨.inr rfl,yv hk (qJ II),An,⟨by simp[cg],by simp[cg]⟩,rS,rfl,rfl,rfl,rfl,rfl⟩
  ·obtain⟨d,hd,rfl⟩:=List.mem_map.1 hm
   have:=pe h.aP hd
   simp only[lh,Bool.and_eq_true] at this
   exact⟨.inr rfl,this.1,Am this.2,⟨by simp[cg],by simp[cg]⟩,rS,rfl,rfl,rfl,rfl,rfl⟩
theorem IJ {q:Call} {t:Int} (h:dw q t):∀m∈jP q,bO m=true:=by
 unfold jP
 split
 ·intro m hm
  obtain⟨ws,h1,h2⟩:=List.mem_flatten.1 hm
  obtain⟨x,hx,rfl⟩:=List.mem_map.1 h1
  obtain⟨a1,a2,a3,a4,a5,a6,a7,a8,a9,wI⟩:=acs h x hx
  have hc:=qt.1 h.an
  have key:∀n:Int,cL n=true->bO {x with aR:=10+q.an,to:=n,call:=q.num}=true:=λn hn=>
   tO (by show 1<=x.kind/\x.kind<=10;omega) (Wz h.an) (pG hn) ⟨by have:=h.num;show 0<=q.num;omega,h.num.2⟩ a2 a3 a4 a5 (by show 0<=x.slot/\x.slot<=2;omega) (by show 0<=x.bz/\x.bz<=9999;omega)
    (by show cn x.ao=true;rw[a8];rfl) (by show cn x.waits=true;rw[a9];rfl) (by show gi x.aD=true;rw[wI];rfl)
  unfold kb at h2
  rcases List.mem_cons.1 h2 with rfl|h2
  ·exact key _ (m0.2 (by omega))
  ·obtain rfl:m=_:=by simpa using h2
   exact key _ (m0.2 (by omega))
 ·intro m hm;simp at hm
theorem y9 {q:Call} {m:aC} {t:Int} (h:dw q t):dw (dm q m t) t:=by
 unfold dm
 split
 ·rename_i hc
  simp only[Bool.and_eq_true,decide_eq_true_eq] at hc
  obtain⟨⟨⟨⟨⟨hm,_⟩,_⟩,jh⟩,hw⟩,hb⟩:=hc
  obtain⟨he,ho⟩:=qp hw
  split
  ·rename_i hk
   split
   ·rename_i U
    obtain⟨hg,ss⟩:=h.put hk
    exact⟨h.an,h.num,h.keys,h.val,h.ctx,h.aP,h.bD,Am U.2,h.has,h.sorted,h.aW,h.xy,h.full,h.put,λe=>absurd hk e,λe=>by have:t=0:=e;have:=h.bD;omega,
     λ_=>⟨ho,⟨by show q.bD+1<=t;omega,Int.le_refl _⟩,ss,λ_=>Xa U.2,λe=>absurd hk e⟩⟩
   ·exact h
  ·rename_i hk
   unfold jW
   split
   ·rename_i hr
    have hg:=Db (q:=q) hm hr.2
    split
    ·rename_i hn
     split
     ·exact h.na hw hb hk hg jh hn
     ·exact h
    ·split
     ·rename_i hy
      exact h.nH hw hb hk hg hy
     ·exact h
   ·exact h
 ·exact h
theorem Q6 (q:Call) (m:aC) (t:Int):(dm q m t).an=q.an/\(dm q m t).num=q.num/\(dm q m t).bD=q.bD/\(dm q m t).over=q.over/\(dm q m t).ctx=q.ctx/\(dm q m t).keys=q.keys/\(dm q m t).kind=q.kind:=by
 have e:∀q':Call,∀t,(l7 q' t).an=q'.an/\(l7 q' t).num=q'.num/\(l7 q' t).bD=q'.bD/\(l7 q' t).over=q'.over/\(l7 q' t).ctx=q'.ctx/\(l7 q' t).keys=q'.keys/\(l7 q' t).kind=q'.kind:=λq' t=>by
  unfold l7;split<;>exact⟨rfl,rfl,rfl,rfl,rfl,rfl,rfl⟩
 unfold dm jW na nH
 dsimp only
 repeat' split
 all_goals first|exact⟨rfl,rfl,rfl,rfl,rfl,rfl,rfl⟩|exact e _ _
theorem acu {q:Call} {t:Int} (h:dw q t):bN (dP q)=true:=by
 unfold dP
 split
 ·exact h.ctx
 ·rename_i he
  split
  ·rename_i hk
   refine wS h.ctx ?_
   have U:db q.aq=true:=by
    have h1:=(h.ended he).2.2.2.1 hk
    have h2:=h.fits
    unfold kx at h2;rw[h1,Bool.false_or] at h2;exact h2
   have hu:lI q.keys=true:=by have:=h.keys;simp only[iZ,Bool.and_eq_true] at this;exact this.1
   have h1:q.keys.length=1:=by
    have:=h.keys;simp[iZ,hk] at this;omega
   unfold lh
   rw[Bool.and_eq_true]
   exact⟨yv hu (aV (by omega)),U⟩
  ·exact(ud h.ctx h.aW).1
theorem acv {l:List Call} {t t':Int} (h:jq l t=true) (ht:t<=t'):jq l t'=true:=by
 obtain⟨h1,h2⟩:=ug.1 h
 exact ug.2 ⟨h1,λi hi=>⟨(h2 i hi).1.later ht,(h2 i hi).2⟩⟩
theorem acw {l:List Call} {t:Int} (h:jq l t=true) {i:Nat} (hi:i<l.length) (hw:gQ (ab l i)=true) {x:Call} (hx:dw x t) (h1:x.an=(ab l i).an) (h2:x.num=(ab l i).num) (h3:x.bD=(ab l i).bD):jq (l.set i x) t=true:=by
 obtain⟨he,ho⟩:=qp hw
 obtain⟨a,b⟩:=ug.1 h
 have hb:∀j,(ab (l.set i x) j).bD=(ab l j).bD:=λj=>by rw[ld hi];split;subst_vars;exact h3;rfl
 have bB:∀j,(ab (l.set i x) j).an=(ab l j).an:=λj=>by rw[ld hi];split;subst_vars;exact h1;rfl
 have Bi:∀j,(ab (l.set i x) j).num=(ab l j).num:=λj=>by rw[ld hi];split;subst_vars;exact h2;rfl
 refine ug.2 ⟨by rw[List.length_set];exact a,λj hj=>?_⟩
 rw[List.length_set] at hj
 obtain⟨b1,b2,b3,b4⟩:=b j hj
 refine⟨?_,by rw[hb,hb];exact b2,by rw[Bi,bB,Xt hi h1];exact b3,λk hk=>?_⟩
 ·rw[ld hi];split
  ·exact hx
  ·exact b1
 ·have hc:=b4 k hk
  unfold mD at hc⊢
  rw[bB,bB,hb]
  by_cases e:k=i
  ·subst e
   rw[he,ho] at hc
   have:((ab l k).an==(ab l j).an)=false:=by simpa using hc
   rw[this];rfl
  ·rw[ld hi,if_neg e];exact hc
theorem cx.later {w:aE} (h:cx w):cx {w with time:=w.time+1}:=
 ⟨by have:=h.time;show 0<=w.time+1;omega,h.ax,h.site,h.ar,h.words,h.seen,h.jD,acv h.calls (by show w.time<=w.time+1;omega)⟩
theorem cx.Q7 {w:aE} (h:cx w) {i:Nat} (hi:i<w.calls.length) (hw:gQ (ab w.calls i)=true) {x:Call} (hx:dw x w.time) (h1:x.an=(ab w.calls i).an) (h2:x.num=(ab w.calls i).num) (h3:x.bD=(ab w.calls i).bD):cx {w with calls:=w.calls.set i x}:=
 ⟨h.time,h.ax,h.site,h.ar,h.words,h.seen,h.jD,acw h.calls hi hw hx h1 h2 h3⟩
theorem Q8 {w:aE} (h:cx w) (m:aC):cx (mb w m):=by
 unfold mb
 dsimp only
 split
 ·exact h
 ·rename_i hn
  obtain⟨h1,h2,h3⟩:=qu (l:=w.calls) (an:=m.to-10) (by omega)
  obtain⟨e1,e2,e3,_⟩:=Q6 (ab w.calls (cq w.calls (m.to-10)).toNat) m w.time
  have hq:=y9 (m:=m) (h.call h1)
  have hg:=h.Q7 h1 h3 hq e1 e2 e3
  split
  ·exact hg.aae _ (acu hq)
  ·exact hg
theorem Q9 {w:aE} (h:cx w) (e:Ev) (aj:(jd w e).2=true):cx (jd w e).1:=by
 unfold jd at*
 split at aj
 ·rename_i hk
  rw[if_pos hk]
  unfold kQ at*
  split at aj
  ·rename_i hc
   rw[if_pos hc]
   exact⟨h.time,h.ax,h.site,h.ar,h.words,h.seen,h.jD,aj⟩
  ·cases aj
 ·rename_i hk
  rw[if_neg hk]
  dsimp only at aj⊢
  split
  ·exact h
  ·rename_i hn
   obtain⟨h1,h2,h3⟩:=qu (l:=w.calls) (an:=e.an) (by omega)
   have hq:=h.call h1
   obtain⟨he,_⟩:=qp h3
   split
   ·refine h.Q7 h1 h3 ⟨hq.an,hq.num,hq.keys,hq.val,hq.ctx,hq.aP,hq.bD,hq.fits,hq.has,hq.sorted,hq.aW,hq.xy,hq.full,hq.put,hq.read,hq.open_,λe=>absurd he e⟩ rfl rfl rfl
   ·exact h.send (IJ hq)
theorem Ra {q:Call} {t:Int} (h:dw q t) (ht:0<=t):(!eX q q.bD||!gQ q)=!gQ q:=by
 cases hw:gQ q
 ·simp
 ·have he:=(qp hw).1
  have:=Dt (pZ.2 h)
  rw[he,Int.add_zero] at this
  rw[this];rfl
theorem Rb (q:Call) (m:aC) (t:Int):(!gQ q||decide (t<=q.bD)||!bO m||(m.to !=10+q.an)||(m.call !=q.num)||!gU q.keys m.key)=
 !(bO m&&(m.to==10+q.an)&&(m.call==q.num)&&gU q.keys m.key&&gQ q&&decide (q.bD<t)):=by
 have e2:decide (t<=q.bD)=!decide (q.bD<t):=by rw[Bool.eq_iff_iff];simp
 rw[e2,Bool.eq_iff_iff]
 cases gQ q<;>cases bO m<;>cases decide (q.bD<t)<;>cases gU q.keys m.key<;>simp[bne]
theorem acx (s:Server) (m:aC) (hg:bF s) (hm:bO m=true) (ho:(aQ m.aR 10 11&&decide (1<=m.call)&&gv s m.key)=true):
 Fn Tryz.prog 243 [s.av,m.av] (AV.dx [(iL s m).1.av,bq (iL s m).2]):=by
 refine Fn.go 150 Tryz.func243 Tryz.ntmps243 (λW I a U=>?_)
 have U:=U.gC (sz:=2) 36
 have aj:=jY.2 hg
 have cT:=hg.ok
 have jE:=hg.small
 have lR:=oB hm
 have AO:=gR lR.2.2.2
 have lens:m.aO.length<=9223372036854775807/\m.ao.length<=9223372036854775807/\m.waits.length<=9223372036854775807/\m.aD.length<=9223372036854775807:=⟨U.ln 1 9,U.ln 1 12,U.ln 1 13,U.ln 1 14⟩
 have hf9:=u7 hm
 have akF:=jE.2.1.1
 have kv:=jz hg.aD
 refine aF λI a w U=>?_
 refine U.alloc rfl cm dF λb4 I a w U=>?_
 refine xZ λI a w U=>?_
 refine U.o (.bd eb (.k (.k (.k bf.nil)))) λU=>?_
 refine U.alloc rfl dr eb λb7 I a w U=>?_
 refine ck λI a w U=>?_
 refine St.lo (σ:=Nat) (5::(9::(run 37 31 []))) ⟨λk=>[(31,AV.int k)],λk=>[Own.row (.slice none 0 0) 36 2 (([]).map cw.cells),Own.box b4 61 [AV.val (.int .i64 0),AV.val (.bool false),AV.rows 2 [],AV.rows 7 [],AV.rows 7 [],AV.rows 3 [],AV.rows 3 []],Own.box b7 70 [AV.int 2,AV.int 0,AV.int 0,AV.int m.call,AV.int m.key,AV.int 0,AV.int 0,AV.int 0,AV.bool false,bm [],AV.int 0,AV.int 0,bX [],bX [],bm []]],λk=>k<=s.ao.length/\∀i,i<k->o4 s m.key (m.aR-10) m.call (ab s.ao i)=false⟩ (λk=>s.ao.length-k) 0 U ?aJ ?aK
 case aJ=>exact⟨Nat.zero_le _,λi hi=>by omega⟩
 case aK=>
  rintro k I a w aj U
  obtain⟨hk,aN⟩:=aj
  refine ai λI a w U=>?_
  refine cz (λae=>?_) λae=>?_
  ·refine aF λI a w U=>?_
   refine U.alloc rfl bA dE λb9 I a w U=>?_
   refine ai λI a w U=>?_
   obtain⟨I,U⟩:=U.fb 3 9
   refine LW λI a w U=>?_
   refine U.q .T (.cl (GJ s (ab s.ao k))) λU=>?_
   refine aA λI a w U=>?_
   refine U.cd (λah=>?_) λah=>?_
   ·rw[Q1] at ah
    refine bk λI a w U=>?_
    refine U.rv 2 l5 .tt .tt rfl rfl rfl λa w U=>?_
    refine zt ?_
    refine U.dt 5 ?_
    simp only[TD]
    refine dq ?_
    refine .o (.c3 (ub s m ⟨2,0,0,m.call,m.key,(ab s.ao k).aq,0,false,[],0,0,[],[],[]⟩ (wJ ..)))<|.nil ?_
    intro I a w U
    refine aA λI a w U=>?_
    refine U.ret rfl (.cons (.sx 1) (.cons .x aX.nil)) ?_
    exact(by rw[QQ ho (by rw[Q2 ae aN ah];rfl),Q2 ae aN ah];rfl)
   ·rw[Q1] at ah
    refine aA λI a w U=>?_
    have U:=U.drop 3
    exact U.ag (k+1) (⟨by omega,λi h1=>by rcases Nat.lt_succ_iff_lt_or_eq.1 h1 with h|h;exact aN i h;rw[h];exact ah⟩)
  ·refine zt ?_
   refine ck λI a w U=>?_
   refine St.lo (σ:=Nat×Value) (10::(12::(run 10 71 []))) ⟨λ⟨k,v⟩=>[(71,AV.int k),(10,AV.val v)],λ⟨k,v⟩=>[Own.row v 36 2 (((m.aO.take k).map au.aq).map cw.cells),Own.box b4 61 [AV.val (.int .i64 0),AV.val (.bool false),AV.rows 2 [],AV.rows 7 [],AV.rows 7 [],AV.rows 3 [],AV.rows 3 []],Own.box b7 70 [AV.int 2,AV.int 0,AV.int 0,AV.int m.call,AV.int m.key,AV.int 0,AV.int 0,AV.int 0,AV.bool false,bm [],AV.int 0,AV.int 0,bX [],bX [],bm []]],λ⟨k,v⟩=>k<=m.aO.length⟩ (λ⟨k,v⟩=>m.aO.length-k) (0,.slice none 0 0) U ?cU ?cV
   case cU=>exact Nat.zero_le _
   case cV=>
    rintro⟨k,v⟩ I a w aj U
    have hk:k<=m.aO.length:=aj
    dsimp only at U
    refine ai λI a w U=>?_
    refine cz (λal=>?_) λal=>?_
    ·refine aF λI a w U=>?_
     refine U.alloc rfl cH fL λtZ I a w U=>?_
     refine ai λI a w U=>?_
     obtain⟨I,U⟩:=U.fb 3 12
     refine bk λI a w U=>?_
     refine U.o (.li [(ab m.aO k).aq.cells] Cp (.u .nil)) λU=>?_
     refine U.ap 0 λv79 a w U=>?_
     refine aI λI a w U=>?_
     have U:=U.drop 3
     rw[cA,show(m.aO.take k).map au.aq++[(ab m.aO k).aq]=(m.aO.take (k+1)).map au.aq from by rw[dW al,List.map_append];rfl] at U
     exact U.ag (k+1,v79) (al)
    ·refine wp_exit<|cN<|cN<|gw<|aY ?_
     refine St.cut (σ:=Value) (10::(run 2 13 (run 14 81 []))) ⟨λv=>[(10,AV.val v)],λv=>[Own.row v 36 2 ((kj s m).map cw.cells),Own.box b4 61 [AV.val (.int .i64 0),AV.val (.bool false),AV.rows 2 [],AV.rows 7 [],AV.rows 7 [],AV.rows 3 [],AV.rows 3 []],Own.box b7 70 [AV.int 2,AV.int 0,AV.int 0,AV.int m.call,AV.int m.key,AV.int 0,AV.int 0,AV.int 0,AV.bool false,bm [],AV.int 0,AV.int 0,bX [],bX [],bm []],Own.gone],λv=>True⟩ U ?acA ?acB
     case acA=>
      refine bt λI a w U=>?_
      refine U.o (.cl (QX s.ao m.key jE.2.1.2)) λU=>?_
      refine bk λI a w U=>?_
      refine U.alloc rfl bA dE λxf I a w U=>?_
      refine U.sb 3 λU=>?_
      obtain⟨I,U⟩:=U.fb 3 13
      refine aA λI a w U=>?_
      refine U.cd (λaH=>?_) λaH=>?_
      ·refine bk λI a w U=>?_
       refine U.o (.li [((fA s.ao m.key).getD default).aq.cells] Cp (.u .nil)) λU=>?_
       refine U.ap 0 λv94 a w U=>?_
       refine ai λI a w U=>?_
       first|rw[cA,show m.aO.take k=m.aO from List.take_of_length_le (by omega),CY aH] at U|rw[show m.aO.take k=m.aO from List.take_of_length_le (by omega),CZ aH] at U
       exact U.me v94 (by trivial)
      ·refine zt ?_
       first|rw[cA,show m.aO.take k=m.aO from List.take_of_length_le (by omega),CY aH] at U|rw[show m.aO.take k=m.aO from List.take_of_length_le (by omega),CZ aH] at U
       exact U.me v (by trivial)
     case acB=>
      rintro v I a w aj U
      refine bk λI a w U=>?_
      obtain⟨I,U⟩:=U.fr 0 98
      refine U.o (.cl (aba s.site (kj s m) hg.site (HZ hg hm))) λU=>?_
      refine bk λI a w U=>?_
      refine U.alloc rfl l5 jU λDJ I a w U=>?_
      refine U.sb 4 λU=>?_
      obtain⟨I,U⟩:=U.fb 4 15
      refine Ad λI a w U=>?_
      refine U.o (.bd dE (.k (.t (.k (.k (.k (.k bf.nil))))))) λU=>?_
      refine U.alloc rfl bA dE λb17 I a w U=>?_
      refine ai λI a w U=>?_
      obtain⟨I,U⟩:=U.fb 5 17
      refine ob λI a w U=>?_
      refine U.cd (λaM=>?_) λaM=>?_
      ·rw[Nz kv] at aM;replace aM:=nt aM
       refine aI λI a w U=>?_
       refine U.ret rfl (.cons (.sx 1) (.cons (.nil (sz:=15) rfl) aX.nil)) ?_
       exact(by rw[IE ho (IG (by omega) aN) (by rw[Bool.and_right_comm,aM];rfl)];rfl)
      ·rw[Nz kv] at aM;replace aM:=nf aM
       refine bk λI a w U=>?_
       refine U.o (.cl (Qs s.ao (fm s m) cT.ao)) λU=>?_
       refine jT λI a w U=>?_
       refine U.cd (λbh=>?_) λbh=>?_
       ·replace bh:=nt bh
        refine aI λI a w U=>?_
        refine U.ret rfl (.cons (.sx 1) (.cons (.nil (sz:=15) rfl) aX.nil)) ?_
        exact(by rw[IE ho (IG (by omega) aN) (by rw[bh];simp)];rfl)
       ·replace bh:=nf bh;have pz:=Yd aM bh;rw[if_pos bh] at U
        refine bH λI a w U=>?_
        refine U.o (.c1 (ua s jE)) λU=>U.alloc rfl cm dF λb19 I a w U=>?_
        refine bk λI a w U=>?_
        refine U.s1 6 λU=>?_
        refine zt ?_
        refine U.dt 6 ?_
        simp only[TD]
        refine cD ?_
        refine .o (.c1 (mS (fm s m))) ?_
        refine .o (bY (Ij s.aD (fm s m).aT (by have:=jz hg.aD;omega)) (aw .r (aw (.t rfl) aL))) ?_
        refine bn ?_
        refine .nil ?_
        intro I a w U
        refine U.s1 6 λU=>?_
        refine aF λI a w U=>?_
        refine U.rv 2 l5 .tt .tt rfl rfl rfl λa w U=>?_
        refine zt ?_
        refine U.dt 6 ?_
        simp only[TD]
        refine bn ?_
        refine .o (bY (y6 {s with ao:=fk s.ao (fm s m),aD:=ef s.aD (fm s m).aT} (ID hg hm (by simp only[Bool.and_eq_true] at ho;exact ho.2) pz).ok (jz (ID hg hm (by simp only[Bool.and_eq_true] at ho;exact ho.2) pz).aD)) (aw (.t rfl) aL)) ?_
        refine cD ?_
        refine .o (.c3 (ub s m ⟨2,0,0,m.call,m.key,(fm s m).aq,0,false,[],0,0,[],[],[]⟩ (wJ ..)))<|.nil ?_
        intro I a w U
        refine aA λI a w U=>?_
        refine U.ret rfl (.cons (.sx 1) (.cons .x aX.nil)) ?_
        exact(by rw[QR ho (IG (by omega) aN) pz];rfl)
theorem acE (x:aE) (e:Ev) (hg:cx x) (ht:x.time<=1000000):
 Fn Tryz.prog 173 [x.av,e.av] (AV.dx [(kQ x e).1.av,AV.bool (kQ x e).2]):=by
 refine Fn.go 82 Tryz.func173 Tryz.ntmps173 (λW I a U=>?_)
 have oH:=hg.lens
 have za:=hg.seen
 have zb:=hg.time
 refine sr<|U.box rfl .tt λb2 I a w U=>U.o .bp λU=>U.alloc rfl df dz λb4 I a w U=>?_
 refine bk λI a w U=>?_
 refine U.o (.cl (jM ..)) λU=>?_
 refine dD λI a w U=>?_
 refine U.q .F (.cl (CG ..)) λU=>?_
 refine aA λI a w U=>?_
 refine U.cd (λae=>?_) λae=>?_
 ·rw[ML] at ae;replace ae:=nt ae
  refine aI λI a w U=>?_
  refine U.ret rfl (.cons (.sx 1) (.cons (.t rfl) aX.nil)) ?_
  exact(by rw[H4 ae];rfl)
 ·rw[ML] at ae;replace ae:=nf ae;have D2:=ae;simp only[ff,aQ,Bool.and_eq_true,decide_eq_true_eq] at D2
  refine zt ?_
  refine U.da 18 ?_
  simp only[TD]
  refine fi ?_
  refine .o (.c1 (acj ..))<|.o (rG dJ cH) ?_
  refine fK ?_
  refine .o (Ca dJ cH rfl .tt .r (λ_=>by have:=hg.P3 (i:=e.an.toNat) (by omega);simp;omega)) ?_
  refine bT ?_
  refine .o (.bd gD (.k (.k (.k (.k (.k (.k bf.nil))))))) ?_
  refine gj.alloc dQ gD<|.nil ?_
  intro I a w U
  obtain⟨b6,U⟩:=U.tm (d:=6) rfl
  refine U.sb 2 λU=>?_
  refine nn ?_
  refine St.cut (σ:=Int) (run 6 38 []) ⟨λval=>[],λval=>[Own.box b2 30 x.cells,Own.box b4 30 [AV.val (.int .i64 0),AV.rows 7 [],AV.rows 15 [],AV.rows 13 [],AV.rows 1 []],Own.box b6 39 ({wN with an:=e.an,num:=1,kind:=e.call,keys:=mE e,val:=val,ctx:=ab x.seen e.an.toNat,bD:=x.time}:Call).cells],λval=>val=if e.call=1 then e.val else 0⟩ U ?rf ?rh
  case rf=>
   refine aI λI a w U=>?_
   refine cz (λah=>?_) λah=>?_
   ·refine aU λI a w U=>?_
    exact U.me e.val (by first|exact(if_pos ah).symm|exact(if_neg ah).symm)
   ·refine zt ?_
    exact U.me 0 (by first|exact(if_pos ah).symm|exact(if_neg ah).symm)
  case rh=>
   rintro val I a w aj U
   have cr:val=if e.call=1 then e.val else 0:=aj
   subst cr
   refine ai λI a w U=>?_
   refine St.lo (σ:=Nat) (7::(run 24 44 [])) ⟨λk=>[(7,AV.int k)],λk=>[Own.box b2 30 x.cells,Own.box b4 30 [AV.val (.int .i64 0),AV.rows 7 [],AV.rows 15 [],AV.rows 13 [],AV.rows 1 []],Own.box b6 39 ({wN with an:=e.an,num:=tL x.calls e.an k+1,kind:=e.call,keys:=mE e,val:=(if e.call=1 then e.val else 0),ctx:=ab x.seen e.an.toNat,bD:=x.time}:Call).cells],λk=>k<=x.calls.length⟩ (λk=>x.calls.length-k) 0 U ?aJ ?aK
   case aJ=>exact Nat.zero_le _
   case aK=>
    rintro k I a w aj U
    have hk:k<=x.calls.length:=aj
    dsimp only at U
    refine ck λI a w U=>?_
    refine cz (λal=>?_) λal=>?_
    ·refine ai λI a w U=>?_
     refine cz (λaH=>?_) λaH=>?_
     ·refine dD λI a w U=>?_
      refine U.o (kS .tt .c (λ_=>by have:=(hg.call al).num;omega)) λU=>?_
      refine ck λI a w U=>?_
      rw[Xw aH] at U
      exact U.ag (k+1) (al)
     ·refine aI λI a w U=>?_
      rw[Xx aH] at U
      exact U.ag (k+1) (al)
    ·refine zt ?_
     rw[aaR x.calls e.an hk (by omega)] at U
     have U:=U.fT
     refine U.eo [([],none),([],none),([0],none),([3],some (3,[71])),([2],none),([],none),([3],some (3,[])),([],none),([0],some (0,[]))] (by kernel_rfl) (by kernel_rfl) rfl ?_
     refine .o (rG mB dQ) ?_
     refine bn ?_
     refine .r [0] (.lb 0) ?_
     refine aS.wh 3 rfl rfl mB dQ rfl .tt .r (by simp;omega) ?_
     refine .r [2] (.ls 2) ?_
     refine .o (.li [(jx x e).cells] Cq (.u .nil)) ?_
     refine aS.xW 3 rfl rfl mB dQ rfl .r (by simp;omega) ?_
     refine bn ?_
     refine aS.iW (x:=AV.any) 0 (λF W0 I0 I a w Q U kk=>U.s1 0 λU=>kk _ _ _ U) ?_
     refine .nil ?_
     intro I a w U
     rw[cA] at U
     refine zt ?_
     refine U.dt 6 ?_
     simp only[TD]
     refine fi ?_
     refine .o (bY (Q4 (x.calls++[jx x e]) x.time (by omega) (λq hq=>by rcases List.mem_append.1 hq with hq|hq;(have:=oH.2 q hq;omega);(obtain rfl:q=jx x e:=by simpa using hq);simp[jx,wN])) (aw .r (aw (.t rfl) aL))) ?_
     refine .nil ?_
     intro I a w U
     refine aA λI a w U=>?_
     refine U.ret rfl (.cons (.sx 1) (.cons (.t rfl) aX.nil)) ?_
     exact(by rw[A7 ae];rfl)
theorem acF {w:aE} (h:cx w) (x:Int):tK w.calls x=gn w.calls w.calls.length x:=by
 have key:∀k,k<=w.calls.length->(w.calls.take k).foldl (λn q=>if q.an=x then q.num else n) 0=gn w.calls k x:=by
  intro k
  induction k with
  |zero=>intro _;rw[GK];rfl
  |succ k ih=>
   intro hk
   rw[dW (by omega),List.foldl_append,ih (by omega),r7 (by omega)]
   show(if(ab w.calls k).an=x then(ab w.calls k).num else gn w.calls k x)=_
   split
   ·rename_i e
    rw[((ug.1 h.calls).2 k (by omega)).2.2.1,e,r7 (by omega),if_pos e]
   ·rfl
 have:=key w.calls.length (Nat.le_refl _)
 rw[List.take_length] at this
 exact this
theorem Rc {q:Call} {t:Int} (h:dw q t):(jP q).length<=1048576/\∀y∈jP q,kD y:=by
 refine⟨?_,λy hy=>xb (IJ h y hy)⟩
 cases hw:gQ q
 ·unfold jP;rw[hw];exact Nat.zero_le _
 ·rw[<-ON hw (Nat.le_refl _),Hk q _ (Nat.le_refl _)]
  have:=Hj (q:=q)
  have:=h.lens
  omega
theorem cx.small {w:aE} (h:cx w):yn w:=by
 refine⟨⟨by have:=h.ax;omega,λs U=>?_⟩,⟨by have:=h.ar;omega,λm hm=>xb (h.words m hm)⟩,⟨by have:=h.lens.1;omega,λq hq=>?_⟩,by have:=h.seen;omega,λl hl=>by have:=gR (h.jD l hl);omega⟩
 ·obtain⟨i,hi,rfl⟩:=gq U
  exact((h.site i (by have:=h.ax;omega)).2).small
 ·obtain⟨i,hi,rfl⟩:=gq hq
  exact(h.call hi).small
theorem cx.az {w:aE} (h:cx w):∀q∈w.calls,q.az.length<=1048576:=λq hq=>by have:=h.lens.2 q hq;omega
structure eN (w:aE) (m:aC):Prop where
 k1:m.kind=1->∃q∈w.calls,m.aR=10+q.an/\q.num=m.call/\m.to/2=q.an/\q.kind=1/\ab q.keys 0=m.key/\q.val=m.val/\q.ctx=m.aO
 k2:m.kind=2->∃v,bU w (m.to-10).toNat v/\v.an=m.to-10/\v.call=m.call/\v.key=m.key/\v.aq=m.aq
 k3:m.kind=3->∃q∈w.calls,m.aR=10+q.an/\q.num=m.call/\m.to/2=q.an
 k4:m.kind=4->∃q∈w.calls,m.to=10+q.an/\q.num=m.call/\(m.yes=true->∃v,m.ao=[v]/\v.key=m.key/\bU w q.an.toNat v/\(dL m.aq=true->bP v.aq (bx q.ctx m.key)=false)/\(dL m.aq=false->v.aq=m.aq))/\
  (m.yes=false->dL m.aq=true/\bx q.ctx m.key=eV)
 k5:m.kind=5->∃v,m.ao=[v]/\bU w (m.aR/2).toNat v/\bL v.aq.site=m.aR/2
 k6:m.kind=6->∃v,v.aT=⟨m.key,m.aq⟩/\nI w (m.aR/2).toNat v
 k8:m.kind=8->∃v,v.aT=⟨m.key,m.aq⟩/\bU w (m.aR/2).toNat v
 k9:m.kind=9->m.aR.toNat<4/\(m.bz<=ep w (bW m.aR.toNat) m.slot.toNat\/yu (sv w m.aR.toNat) m)
 nS:m.kind=10->m.aR.toNat<4/\m.bz<=ep w m.aR.toNat m.slot.toNat
structure nb (w:aE) (q:Call):Prop where
 ee:∀a∈q.az,a.yes=true->bU w q.an.toNat a.be
 ctx:∀a∈q.az,bP a.be.aq (bx q.ctx a.key)=false
 full:q.kind≠1->q.az.length=q.keys.length->∃C:Int->cw,(∀a∈q.az,∀key,bP (C key) (bx a.be.aO key)=false)/\(∀a∈q.az,bP a.be.aq (C a.key)=false\/(⟨a.key,C a.key⟩:au)∈q.aP)/\
  ∀d∈q.aP,d.aq=C d.key/\∃u,bU w q.an.toNat u/\u.aT=d/\∀key,bP (C key) (bx u.aO key)=false
theorem nb.ext {w x:aE} (h:Ext w x) {q:Call} (g:nb w q):nb x q:=
 ⟨λa ha hy=>h.ee (g.ee a ha hy),g.ctx,λh1 h2=>by
  obtain⟨C,c1,c2,c3⟩:=g.full h1 h2
  exact⟨C,c1,c2,λd hd=>let⟨e1,u,e2,e3⟩:=c3 d hd;⟨e1,u,h.ee e2,e3⟩⟩⟩
theorem eN.ext {w x:aE} (h:Ext w x) {m:aC} (hm:bO m=true) (g:eN w m) (h9:m.kind=9->m.aR.toNat<4->yu (sv w m.aR.toNat) m->m.bz<=ep x (bW m.aR.toNat) m.slot.toNat\/yu (sv x m.aR.toNat) m):eN x m where
 k1 e:=by
  obtain⟨q,hq,a1,a2,a3,a4,a5,a6,a7⟩:=g.k1 e
  obtain⟨p,hp,s1,s2,s3,s4,s5,s6⟩:=h.calls q hq
  exact⟨p,hp,by rw[s1];exact a1,by rw[s2];exact a2,by rw[s1];exact a3,by rw[s3];exact a4,by rw[s4];exact a5,by rw[s5];exact a6,by rw[s6];exact a7⟩
 k2 e:=by
  obtain⟨v,a1,a2⟩:=g.k2 e
  exact⟨v,h.ee a1,a2⟩
 k3 e:=by
  obtain⟨q,hq,a1,a2,a3⟩:=g.k3 e
  obtain⟨p,hp,s1,s2,s3,s4,s5,s6⟩:=h.calls q hq
  exact⟨p,hp,by rw[s1];exact a1,by rw[s2];exact a2,by rw[s1];exact a3⟩
 k4 e:=by
  obtain⟨q,hq,a1,a2,a3,a4⟩:=g.k4 e
  obtain⟨p,hp,s1,s2,s3,s4,s5,s6⟩:=h.calls q hq
  refine⟨p,hp,by rw[s1];exact a1,by rw[s2];exact a2,λhy=>?_,λhy=>?_⟩
  ·obtain⟨v,b1,b2,b3,b4,b5⟩:=a3 hy
   exact⟨v,b1,b2,by rw[s1];exact h.ee b3,by rw[s6];exact b4,b5⟩
  ·rw[s6];exact a4 hy
 k5 e:=by
  obtain⟨v,a1,a2,a3⟩:=g.k5 e
  exact⟨v,a1,h.ee a2,a3⟩
 k6 e:=by
  obtain⟨v,a1,a2⟩:=g.k6 e
  exact⟨v,a1,h.cont a2⟩
 k8 e:=by
  obtain⟨v,a1,a2⟩:=g.k8 e
  exact⟨v,a1,h.ee a2⟩
 k9 e:=by
  obtain⟨hl,a|a⟩:=g.k9 e
  ·exact⟨hl,.inl (Int.le_trans a (h.ep _ (oi hl) _ (Oe hm)))⟩
  ·exact⟨hl,h9 e hl a⟩
 nS e:=⟨(g.nS e).1,Int.le_trans (g.nS e).2 (h.ep _ (g.nS e).1 _ (Oe hm))⟩
theorem Rd {w:aE} {m:aC} (hk:m.kind=2) (h:∃v,bU w (m.to-10).toNat v/\v.an=m.to-10/\v.call=m.call/\v.key=m.key/\v.aq=m.aq):eN w m:=by
 constructor<;>intro e<;>first|exact h|(rw[hk] at e;exact absurd e (by decide))
theorem Re {w:aE} {m:aC} (hk:m.kind=4) (h:∃q∈w.calls,m.to=10+q.an/\q.num=m.call/\(m.yes=true->∃v,m.ao=[v]/\v.key=m.key/\bU w q.an.toNat v/\(dL m.aq=true->bP v.aq (bx q.ctx m.key)=false)/\(dL m.aq=false->v.aq=m.aq))/\(m.yes=false->dL m.aq=true/\bx q.ctx m.key=eV)):eN w m:=by
 constructor<;>intro e<;>first|exact h|(rw[hk] at e;exact absurd e (by decide))
theorem Rf {w:aE} {m:aC} (hk:m.kind=6) (h:∃v:aB,v.aT=⟨m.key,m.aq⟩/\nI w (m.aR/2).toNat v):eN w m:=by
 constructor<;>intro e<;>first|exact h|(rw[hk] at e;exact absurd e (by decide))
theorem acG {w:aE} {m:aC} (hk:m.kind=7):eN w m:=by
 constructor<;>intro e<;>(rw[hk] at e;exact absurd e (by decide))
theorem acH {w:aE} {m:aC} (hk:m.kind=8) (h:∃v:aB,v.aT=⟨m.key,m.aq⟩/\bU w (m.aR/2).toNat v):eN w m:=by
 constructor<;>intro e<;>first|exact h|(rw[hk] at e;exact absurd e (by decide))
theorem acI {w:aE} {m:aC} (hk:m.kind=9) (h:m.aR.toNat<4/\(m.bz<=ep w (bW m.aR.toNat) m.slot.toNat\/yu (sv w m.aR.toNat) m)):eN w m:=by
 constructor<;>intro e<;>first|exact h|(rw[hk] at e;exact absurd e (by decide))
theorem acJ {w:aE} {m:aC} (hk:m.kind=10) (h:m.aR.toNat<4/\m.bz<=ep w m.aR.toNat m.slot.toNat):eN w m:=by
 constructor<;>intro e<;>first|exact h|(rw[hk] at e;exact absurd e (by decide))
theorem IK {q:Call} (h:∀a∈q.az,dB a=true) (key:Int):bx (eW q) key=kd q.az key:=by
 show bx (q.az.foldl km []) key=_
 rw[(pg (acc:=[]) rfl h).2 key]
 show du eV _=_
 exact pf (Ba h key)
theorem acK {w:aE} {m:aC} (hk:m.kind=1) (h:∃q∈w.calls,m.aR=10+q.an/\q.num=m.call/\m.to/2=q.an/\q.kind=1/\ab q.keys 0=m.key/\q.val=m.val/\q.ctx=m.aO):eN w m:=by
 constructor<;>intro e<;>first|exact h|(rw[hk] at e;exact absurd e (by decide))
theorem Rg {w:aE} {m:aC} (hk:m.kind=3) (h:∃q∈w.calls,m.aR=10+q.an/\q.num=m.call/\m.to/2=q.an):eN w m:=by
 constructor<;>intro e<;>first|exact h|(rw[hk] at e;exact absurd e (by decide))
theorem acL {q:Call} {m:aC} {t:Int} (hq:q.ctx=[]/\∀a∈q.az,a.yes=false) (hw:q.end_=0) (hm:u0 m):((dm q m t).ctx=[]/\∀a∈(dm q m t).az,a.yes=false)/\(0<(dm q m t).end_->dP (dm q m t)=[]):=by
 have vB:(q.ctx=[]/\∀a∈q.az,a.yes=false)/\(0<q.end_->dP q=[]):=⟨hq,λe=>by omega⟩
 have read:∀p:Call,p.ctx=[]->(∀a∈p.az,a.yes=false)->p.kind≠1->(p.ctx=[]/\∀a∈p.az,a.yes=false)/\(0<p.end_->dP p=[]):=λp h1 h2 h3=>⟨⟨h1,h2⟩,λe=>by
  unfold dP
  rw[if_neg (by omega),if_neg h3,Oh h2,h1]⟩
 obtain⟨hk,m1,m2,m3,m4⟩:=hm
 unfold dm
 split
 ·split
  ·rw[if_neg (λh=>by omega)];exact vB
  ·rename_i kg
   unfold jW
   split
   ·split
    ·split
     ·have hg:∀a∈cR q.az (dN m),a.yes=false:=λa ha=>by
       rcases qL.1 ha with rfl|ha
       ·exact m4
       ·exact hq.2 a ha
      unfold na
      dsimp only
      split
      ·exact read _ hq.1 hg kg
      ·unfold l7
       split
       ·exact read _ hq.1 hg kg
       ·exact read _ hq.1 hg kg
     ·exact vB
    ·rw[m4];exact vB
   ·exact vB
 ·exact vB
end Go.Proofs.YtjepcfpkclegdaaGreat
