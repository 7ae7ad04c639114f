/- Part 40: contracts of functions, plain facts. -/
import Derived.Test.YtdanidpleofjgaaGreatP33
import Derived.Test.YtdanidpleofjgaaGreatP38
set_option linter.all false
set_option maxRecDepth 100000
set_option maxHeartbeats 4000000
namespace Go.Proofs.YtdanidpleofjgaaGreat
open Go Go.RowKit Tryz
attribute [local irreducible] wpList Code.wp Ok
set_option maxHeartbeats 16000000 in
def aeO (x:aI) (e:Ev) (hg:cy x) (ht:x.time<=1000000) (zy:cO e.at_=true):
 Fn prog 89 [x.av,e.av] (AV.db [(fl x e).1.av,AV.bool (fl x e).2]):=by
 refine Fn.go 85 func89 ntmps89 (λW I a U=>?_);have hai:=lK.1 zy;have jn:=hg.au;have jM:=hg.aw;have jk:=(hg.site e.at_.toNat om).2;have Tm:=jx.2 jk;refine sr<|U.box rfl .tt λb2 I a w U=>U.o .bp λU=>U.alloc rfl dx dB λb4 I a w U=>?_;refine fo λI a w U=>?_;refine U.alloc rfl cq dz λb6 I a w U=>?_;refine ax λI a w U=>?_;obtain⟨I,U⟩:=U.fb 2 6;refine U.l0 λb17 I a w U=>?_;refine aH λI a w U=>?_;refine U.ap 3 λv20 a w U=>?_;simp only[List.nil_append] at U;refine U.o .fv λU=>?_;try have anr:=U.dZ 3 rfl
 refine ax λI a w U=>?_;refine U.l0 λb22 I a w U=>?_;refine aH λI a w U=>?_;refine U.ap 4 λwG a w U=>?_;simp only[List.nil_append] at U;refine ct λI a w U=>?_;refine cz (λae=>?_) λae=>?_
 .refine wp_seq ?_;obtain⟨Cf,Cg,rz⟩:=U.ia 3 rfl pt;subst rz;refine U.dt 7 ?_;simp only[TD];refine fD ?_;refine .o (.c1 (abf (ab x.aw e.at_.toNat) Tm)) ?_;refine .o (gq pH cq .tt .tt (λ_=>by simp only[List.length_map];omega)) ?_;refine .nil ?_;intro I a w U;refine U.jZ 3 cq .tt .tt rfl (by exact ey om) rfl rfl λa w U=>?_;refine nn<|wp_seq ?_;have e9:∀y,y=Server.cells (pU (ab x.aw e.at_.toNat))->(List.map Server.cells x.aw).set e.at_.toNat y=List.map Server.cells (x.aw.set e.at_.toNat (pU (ab x.aw e.at_.toNat))):=λy hy=>by rw[hy,List.map_set]
  rw[e9] at U;rotate_left
  .rfl
  obtain⟨I,U⟩:=U.fu 3 1 0;refine U.dh (([0],none)::rp 3 [([1],some (1,[])),([],none)]) aG aG rfl ?_;refine .r [0] (.ls 0) ?_;refine dJ ?_;refine aK.cX (x:=AV.any) 1 (λF W0 I0 I a w Q U kk=>U.sb 1 λU=>kk _ _ _ U) ?_;refine aX ?_;refine .nil ?_;intro I a w U;refine zt ?_;refine U.ret rfl (.cons (.sx 1) (.cons (.t rfl) ba.nil)) ?_;exact(by rw[abu ae];rfl)
 refine aB λI a w U=>?_;refine cz (λah=>?_) λah=>?_
 .refine wp_seq ?_;obtain⟨Cf,Cg,rz⟩:=U.ia 3 rfl pt;subst rz;refine U.dt 7 ?_;simp only[TD];refine fD ?_;refine .o (.c1 (ach (ab x.aw e.at_.toNat) Tm)) ?_;refine .o (gq pH cq .tt .tt (λ_=>by simp only[List.length_map];omega)) ?_;refine .nil ?_;intro I a w U;refine U.jZ 3 cq .tt .tt rfl (by exact ey om) rfl rfl λa w U=>?_;refine nn<|wp_seq ?_;have e9:∀y,y=Server.cells (ll (ab x.aw e.at_.toNat))->(List.map Server.cells x.aw).set e.at_.toNat y=List.map Server.cells (x.aw.set e.at_.toNat (ll (ab x.aw e.at_.toNat))):=λy hy=>by rw[hy,List.map_set]
  rw[e9] at U;rotate_left
  .rfl
  obtain⟨I,U⟩:=U.fu 3 1 0;refine U.dh (([0],none)::rp 2 [([1],some (1,[])),([],none)]) aG aG rfl ?_;refine .r [0] (.ls 0) ?_;refine cj ?_;refine aK.cX (x:=AV.any) 1 (λF W0 I0 I a w Q U kk=>U.sb 1 λU=>kk _ _ _ U) ?_;refine aX ?_;refine .nil ?_;intro I a w U;refine zt ?_;refine U.ret rfl (.cons (.sx 1) (.cons (.t rfl) ba.nil)) ?_;exact(by rw[acz ah];rfl)
 refine aB λI a w U=>?_;refine cz (λaj=>?_) λaj=>?_
 .refine aH λI a w U=>?_;refine U.o (.c1 (acX (ab x.aw e.at_.toNat) jk)) λU=>?_;refine U.eJ [4] (Et wG x.au (kT (ab x.aw e.at_.toNat)) hg.au) (ai .r (ai .r aC)) rfl aM rfl λI a w U=>?_;change St _ _ [Own.box b2 28 [AV.int x.time,AV.val v20,cQ x.au,fB x.calls,gN x.seen],Own.box b4 28 [AV.val (.int .i64 0),AV.rows 7 [],AV.rows 15 [],AV.rows 13 [],AV.rows 1 []],Own.gone,Own.row v20 43 7 (x.aw.map Server.cells),Own.gone] _ _ _ at U;refine aB λI a w U=>?_;obtain⟨I,U⟩:=U.fu 3 1 0;refine U.dh (([0],none)::rp 2 [([1],some (1,[])),([],none)]) aG aG rfl ?_;refine .r [0] (.ls 0) ?_;refine cj ?_;refine aK.cX (x:=AV.any) 1 (λF W0 I0 I a w Q U kk=>U.sb 1 λU=>kk _ _ _ U) ?_;refine aX ?_;refine .nil ?_;intro I a w U;refine zt ?_;refine U.ret rfl (.cons (.sx 1) (.cons (.t rfl) ba.nil)) ?_;exact(by rw[aa9 aj];rfl)
 refine aV λI a w U=>?_;refine U.o (.c2 (acM (ab x.aw e.at_.toNat) e.slot jk)) λU=>?_;refine bz λI a w U=>?_;refine U.alloc rfl cq dz λb8 I a w U=>U.alloc rfl dj dN λb9 I a w U=>?_;refine U.sb 5 λU=>?_;obtain⟨I,U⟩:=U.fb 5 8;refine U.sb 6 λU=>?_;obtain⟨I,U⟩:=U.fb 6 9;refine ax λI a w U=>?_;obtain⟨Cf,Cg,rz⟩:=U.ia 3 rfl pt;subst rz;refine bO λI a w U=>?_;refine U.o (gq pH cq .tt .tt (λ_=>by simp only[List.length_map];omega)) λU=>?_;refine U.jZ 3 cq .tt .tt rfl (by exact ey om) rfl rfl λa w U=>?_;refine nn<|wp_seq<|wp_seq ?_;have e9:∀y,y=Server.cells (eG (ab x.aw e.at_.toNat) e.slot).1->(List.map Server.cells x.aw).set e.at_.toNat y=List.map Server.cells (x.aw.set e.at_.toNat (eG (ab x.aw e.at_.toNat) e.slot).1):=λy hy=>by rw[hy,List.map_set]
 rw[e9] at U;rotate_left
 .rfl
 obtain⟨I,U⟩:=U.fu 3 1 0;refine ax λI a w U=>?_;refine U.cd (λaJ=>?_) λaJ=>?_
 .refine aH λI a w U=>?_;refine U.o (.li [(eG (ab x.aw e.at_.toNat) e.slot).2.1.cells] gw (.u .nil)) λU=>?_;refine U.eJ [4] (Et wG x.au [(eG (ab x.aw e.at_.toNat) e.slot).2.1] hg.au) (ai .r (ai .r aC)) rfl aM rfl λI a w U=>?_;change St _ _ [Own.box b2 28 [AV.int x.time,iG (x.aw.set e.at_.toNat (eG (ab x.aw e.at_.toNat) e.slot).1),cQ x.au,fB x.calls,gN x.seen],Own.box b4 28 [AV.val (.int .i64 0),AV.rows 7 [],AV.rows 15 [],AV.rows 13 [],AV.rows 1 []],Own.gone,Own.gone,Own.gone,Own.gone,Own.gone] _ _ _ at U;refine gY λI a w U=>?_;refine U.ret rfl (.cons (.sx 1) (.cons (.t rfl) ba.nil)) ?_;exact(by rw[abv ae ah aj aJ];rfl)
 refine aY λI a w U=>?_;refine U.ret rfl (.cons (.sx 1) (.cons (.t rfl) ba.nil)) ?_;exact(by rw[acA ae ah aj aJ];rfl)
end Go.Proofs.YtdanidpleofjgaaGreat
set_option linter.all false
set_option maxRecDepth 100000
set_option maxHeartbeats 4000000
namespace Go.Proofs.YtdanidpleofjgaaGreat
open Go Go.RowKit Tryz
attribute [local irreducible] wpList Code.wp Ok
def Th (l:List Call) (time:Int) (ht:time<=4611686018427387904) (hl:l.length<=1048576) (aQ:∀q∈l,je q.aq):
 Fn prog 63 [fB l,AV.int time] (AV.bool (jJ l time)):=by
 refine Fn.go 86 func63 ntmps63 (λW I a U=>?_);refine ax λI a w U=>?_;refine U.makeMap rfl Ep λkS a w U=>?_;rw[show(λ_:Int=>(0:Int))=ga l 0 from(Ho l).symm] at U;refine aY λI a w U=>?_;refine St.lo (σ:=Nat) (4::(run 2 6 (9::(run 70 13 [])))) ⟨λk=>[(13,AV.int k)],λk=>[Own.wi prog 3 3 (λx:Int=>Lit.int .i64 x) (λx:Int=>.lit (.int .i64 x)) 0 kS (k) (ga l (k))],λk=>k<=l.length/\∀i,i<k->(mZ l time) i=true⟩ (λk=>l.length-k) 0 U ?aL ?bG;case aL=>exact⟨Nat.zero_le _,λi hi=>by omega⟩
 rintro k I a w al U;obtain⟨rV,aT⟩:=al;refine ax λI a w U=>?_;refine cz (λae=>?_) λae=>?_
 .refine aV λI a w U=>?_;refine U.alloc rfl eR j2 λb7 I a w U=>?_;refine aB λI a w U=>?_;obtain⟨I,U⟩:=U.fb 1 7;refine aV λI a w U=>?_;refine U.o (Nm 0 Ep .tt (GR qA .tt (aQ _ (bB ae))) rfl) λU=>?_;refine U.o (lz .tt .c (λ_=>by have:=DD l k (ab l k).aq;omega)) λU=>?_;refine U.mapUpdate 0 Ep .tt (GR qA .tt (aQ _ (bB ae))) .tt (by have:=DD l k (ab l k).aq;omega) om rfl λa w U=>?_;rw[Yn ae] at U;refine nn<|wp_seq<|wp_seq<|U.dk ?_;refine cj ?_;refine .o (.c2 (Jo _ _ ht)) ?_;refine nd ?_;refine gZ ?_;refine .q .F (Nm 0 Ep .ag (GR qA .ag (aQ _ (bB ae))) rfl) ?_;refine cj ?_;refine .nil ?_;intro I a w U;refine bk ?_;refine U.cd (λah=>?_) λah=>?_
  .rw[RI] at ah;replace ah:=nt ah;refine bc ?_;exact bF (by unfold jJ;rw[fN (f:=mZ l time) ae (by unfold mZ;rw[ah];rfl)];rfl)
  rw[RI] at ah;replace ah:=nf ah;refine aH λI a w U=>?_;refine U.o (Ak kj eR .r .tt (λ_=>by rw[List.length_map];omega)) λU=>?_;rw[<-List.map_take,Int.toNat_natCast] at U;have jq:(l.take k).length=k:=by simp;omega
  refine aB λI a w U=>?_;refine St.lo (σ:=Nat) (4::(9::(run 27 55 []))) ⟨λk2=>[(55,AV.int k2)],λk2=>[Own.wi prog 3 3 (λx:Int=>Lit.int .i64 x) (λx:Int=>.lit (.int .i64 x)) 0 kS (k+1) (ga l (k+1)),Own.gone],λk2=>k2<=k/\∀i,i<k2->(λj=>!lM (ab l j) (ab l k)) i=true⟩ (λk2=>k-k2) 0 U ?ei ?jK;case ei=>exact⟨Nat.zero_le _,λi hi=>by omega⟩
  rintro k2 I a w al U;obtain⟨zn,jL⟩:=al;refine ax λI a w U=>?_;refine cz (λaj=>?_) λaj=>?_
  .refine aH λI a w U=>?_;refine U.alloc rfl eR j2 λb9 I a w U=>?_;refine ax λI a w U=>?_;obtain⟨I,U⟩:=U.fb 2 9;refine Wm λI a w U=>?_;refine U.cd (λaJ=>?_) λaJ=>?_
   .change lM (ab (l.take k) k2) (ab l k)=true at aJ;rw[Pe om] at aJ;refine bc ?_;exact bF (by unfold jJ;rw[fN (f:=mZ l time) ae (by unfold mZ;rw[fN (f:=λj=>!lM (ab l j) (ab l k)) (k:=k2) om (by rw[aJ];rfl)];simp)];rfl)
   change lM (ab (l.take k) k2) (ab l k)=false at aJ;rw[Pe om] at aJ;refine aB λI a w U=>?_;have U:=U.drop 2;exact U.ag (k2+1) (⟨by omega,gO jL (by rw[aJ];rfl)⟩)
  refine zt ?_;refine aB λI a w U=>?_;have U:=U.drop 1;exact U.ag (k+1) (⟨by omega,gO aT (by unfold mZ;rw[ah,fJ jL om];rfl)⟩)
 refine zt ?_;refine aY λI a w U=>?_;refine U.rt ?_;exact bF (by unfold jJ;rw[fJ aT om,X6];rfl)
def aeq (s:Server) (m:az) (hg:bH s) (hm:bM m=true):
 Fn prog 230 [s.av,m.av] (AV.db [(eH s m).1.av,cQ (eH s m).2]):=by
 refine Fn.go 224 func230 ntmps230 (λW I a U=>?_);have al:=jx.2 hg;have cV:=hg.ok;have gj:=hg.small;have J4:=hg.aF;have jM:=qB hm;have hf9:=uX hm;have amT:=cV.bj;have e9:∀x,x=cG.cells ⟨m.bf,0⟩->(List.map cG.cells s.aF).set m.slot.toNat x=List.map cG.cells (kR s m).aF:=λx h=>by rw[h];exact List.map_set.symm
 refine aH λI a w U=>?_;refine U.alloc rfl cq dz λb4 I a w U=>?_;refine bz λI a w U=>?_;refine U.o (.c1 (A7 ..)) λU=>?_;refine ax λI a w U=>?_;refine U.dk ?_;refine cj ?_;refine .o (.c1 (tu ..)) ?_;refine dJ ?_;refine .q .T (.cl (A8 ..)) ?_;refine cj ?_;refine .q .T (.cl (A8 ..)) ?_;refine dJ ?_;refine .nil ?_;intro I a w U;refine bk<|wp_seq<|U.dk ?_;refine dM ?_;refine .o (.c1 (HX _ hg.site)) ?_;refine cj ?_;refine .nil ?_;intro I a w U;refine yu λI a w U=>?_;refine U.q .T (.cl (yS s m.key J4)) λU=>?_;refine aB λI a w U=>?_;refine U.cd (λae=>?_) λae=>?_
 .refine aH λI a w U=>?_;refine U.o (.c2 (acD s m hg hm (EJ ae).2)) λU=>?_;refine aY λI a w U=>?_;refine U.ret rfl (.cons (.sx 0) (.cons .x ba.nil)) ?_;exact(by rw[qY (EJ ae).1];rfl)
 refine yu λI a w U=>?_;refine U.q .T (.cl (yS s m.key J4)) λU=>?_;refine aB λI a w U=>?_;refine U.cd (λah=>?_) λah=>?_
 .refine aH λI a w U=>?_;refine U.o (.c2 (acT s m hg (EJ ah).2)) λU=>?_;refine aY λI a w U=>?_;refine U.ret rfl (.cons (.sx 0) (.cons .x ba.nil)) ?_;exact(by rw[qZ (EJ ah).1];rfl)
 refine jf λI a w U=>?_;refine U.cd (λaj=>?_) λaj=>?_
 .refine aH λI a w U=>?_;refine U.o (.c2 (abK s m hg hm (Oy aj).2)) λU=>?_;refine aY λI a w U=>?_;refine U.ret rfl (.cons (.sx 0) (.cons .x ba.nil)) ?_;exact(by rw[ra (Oy aj).1];rfl)
 refine uD λI a w U=>?_;refine U.q .T (.cl (yS s m.key J4)) λU=>?_;refine aB λI a w U=>?_;refine U.cd (λaJ=>?_) λaJ=>?_
 .refine bA λI a w U=>?_;refine U.bq [] (Bx s gj) (ai .tt aC) rfl aM rfl λ⟨vS,vV,vW,vO,vK⟩ I a w E2 U=>?_;refine U.alloc rfl cq dz λb9 I a w U=>?_;refine aV λI a w U=>?_;refine U.o (oJ (ai .tt aC)) λU=>?_;refine U.bq [4,0] (IB vO s.aD (λd=>decide (d=⟨m.key,m.ar⟩)) _ (Own.box b4 43 [AV.val (.int .i64 0),AV.val (.bool false),AV.rows 2 [],AV.rows 7 [],AV.rows 7 [],AV.rows 3 [],AV.rows 3 []]) (by have:=iR hg.aD;omega) (λd hd=>lD.frame (Fn.val (gX:=[AV.ptr m.cells]) (aaY m d)))) (ai .r (ai .tt aC)) rfl aM rfl λamU I a w amV U=>?_;refine U.o .fv λU=>?_;try have amW:=U.dZ 4 rfl
  refine U.s1 6 λU=>?_;refine wpList_nil ?_;obtain⟨I,U⟩:=U.fu 1 2 6;obtain⟨I,U⟩:=U.fu 2 3 6;obtain⟨I,U⟩:=U.fu 3 4 6;obtain⟨I,U⟩:=U.fu 4 5 6;obtain⟨I,U⟩:=U.fu 5 6 6;have U:=U.nf;refine aN λI a w U=>?_;refine U.ret rfl (.cons (.sx 0) (.cons (.nil (sz:=15) rfl) ba.nil)) ?_;exact(by rw[abr hg aJ];rfl)
 refine th λI a w U=>?_;refine U.q .T (.bd fh (.k (.t aW.nil (h:=.ag)) (h:=.ag))) λU=>?_;refine U.q .T (.cl (qV s.an ⟨m.key,m.ar⟩)) λU=>?_;refine aN λI a w U=>?_;refine U.cd (λaP=>?_) λaP=>?_
 .refine wp_seq ?_;refine U.dt 9 ?_;simp only[TD];refine kJ ?_;refine .o (.bd dN (.k (.k (.t aW.nil)))) ?_;refine .o (.c3 (tP s m ⟨8,0,0,0,m.key,m.ar,0,false,[],0,0,[],[],[]⟩ (wR ..)))<|.nil ?_;intro I a w U;refine aB λI a w U=>?_;refine U.ret rfl (.cons (.sx 0) (.cons .x ba.nil)) ?_;exact(by rw[abq aP];rfl)
 refine Dd λI a w U=>?_;refine U.q .T (.bd fh (.k (.t aW.nil (h:=.ag)) (h:=.ag))) λU=>?_;refine U.q .T (.cl (Z1 s ⟨m.key,m.ar⟩)) λU=>?_;refine rR λI a w U=>?_;refine U.cd (λbn=>?_) λbn=>?_
 .refine bA λI a w U=>?_;refine U.o (.c1 (tN s gj)) λU=>U.alloc rfl cq dz λkS I a w U=>?_;refine fo λI a w U=>?_;refine U.o (.bd fh (.k (.t aW.nil))) λU=>?_;refine U.o (cr (Ix s.bj ⟨m.key,m.ar⟩ (by have:=cV.bj;omega)) (ai .r (ai (.t rfl) aC))) λU=>?_;refine aV λI a w U=>?_;refine U.o (cr (zE {s with bj:=eF s.bj ⟨m.key,m.ar⟩} (cV.PJ (by simp only[B] at bn;omega)) (iR hg.aD)) (ai (.t rfl) aC)) λU=>?_;refine aB λI a w U=>?_;refine U.ret rfl (.cons (.sx 0) (.cons (.nil (sz:=15) rfl) ba.nil)) ?_;exact(by rw[acx bn];rfl)
 refine AP λI a w U=>?_;refine U.cd (λbl=>?_) λbl=>?_
 .refine aH λI a w U=>?_;refine U.o (.c2 (abL s m hg hm (OU bl).2)) λU=>?_;refine aY λI a w U=>?_;refine U.ret rfl (.cons (.sx 0) (.cons .x ba.nil)) ?_;exact(by rw[rh (OU bl).1];rfl)
 refine wp_seq<|U.dk ?_;refine Wr ?_;refine .q .T (.bd mC (.k (.k aW.nil) (h:=.ag))) ?_;refine .q .T (mq [_,_] [_,_] G3 rfl rfl .ag .ag) ?_;refine cj ?_;refine .nil ?_;intro I a w U;refine bk ?_;refine U.cd (λcm=>?_) λcm=>?_
 .refine aV λI a w U=>?_;refine U.bq [] (Re s m.slot gj) (ai .tt (ai .tt aC)) rfl aM rfl λvS I a w amX U=>?_;refine U.alloc rfl cq dz λmc I a w U=>?_;refine ax λI a w U=>?_;obtain⟨bS,cS,rfl⟩:=U.ia 1 rfl iv;refine bz λI a w U=>?_;refine U.o (gq fP ew .tt .tt (λ_=>by simp only[List.length_map];omega)) λU=>?_;refine U.o .fv λU=>?_;refine U.vU (j:=1) 1 cx .tt .c (by first|exact gn rfl|exact en|exact gC|exact gE|assumption) rfl (by exact ey om) rfl rfl λa w U=>?_;refine zt ?_;rw[e9] at U;rotate_left
  .exact Yx cm
  obtain⟨I,U⟩:=U.fu 1 2 2;refine bA λI a w U=>?_;refine U.o (.c1 (zE (kR s m) (cV.gone m) (Nat.le_trans (List.length_filter_le ..) (iR hg.aD)))) λU=>?_;refine aB λI a w U=>?_;refine U.ret rfl (.cons (.sx 0) (.cons (.nil (sz:=15) rfl) ba.nil)) ?_;exact(by rw[acy cm];rfl)
 refine aN λI a w U=>?_;refine U.ret rfl (.cons (.sx 0) (.cons (.nil (sz:=15) rfl) ba.nil)) ?_;exact(by rw[acU hm ae ah aj aJ aP bn bl cm];rfl)
end Go.Proofs.YtdanidpleofjgaaGreat
