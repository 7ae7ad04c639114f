/- Part 33: contracts of functions, plain facts. -/
import Derived.Test.YtldbakcpcfdlaaaGreatP25
import Derived.Test.YtldbakcpcfdlaaaGreatP30
set_option linter.all false
set_option maxRecDepth 100000
set_option maxHeartbeats 4000000
namespace Go.Proofs.YtldbakcpcfdlaaaGreat
open Go Go.RowKit Tryz
attribute [local irreducible] wpList Code.wp Ok
def Wm {w:ai} (h:bX w) (m:az):bX (jC w m):=by
 unfold jC;dsimp only;split
 .exact h
 rename_i hn;obtain⟨h1,h2,h3⟩:=na (l:=w.calls) (aj:=m.to-10) om;obtain⟨e1,e2,e3,_⟩:=Hc (ab w.calls (cq w.calls (m.to-10)).toNat) m w.time;have hq:=Bo (m:=m) (h.call h1);have hg:=h.VY h1 h3 hq e1 e2 e3;split
 .exact hg.agh _ (ahG hq)
 exact hg
def ai1 {w:ai} (h:bX w) (e:Ev):bX (iG w e).1:=by
 unfold iG;split
 .rename_i hr;simp only[aJ,Bool.and_eq_true,decide_eq_true_eq] at hr;have hm:bK (ab w.al e.word.toNat)=true:=h.words _ (bh om);have h1:bX (if e.kind=5\/e.gi=0 then{w with al:=w.al.take e.word.toNat++w.al.drop (e.word.toNat+1)} else w):=by
   split
   .have U:=Ax w.al e.word.toNat;exact⟨h.time,h.aC,h.site,Nat.le_trans U.length_le h.al,λm hm=>h.words m (U.subset hm),h.seen,h.kG,h.calls⟩
   exact h
  have iR:(if e.kind=5\/e.gi=0 then{w with al:=w.al.take e.word.toNat++w.al.drop (e.word.toNat+1)} else w).aC=w.aC:=by split<;>rfl
  dsimp only;generalize (if e.kind=5\/e.gi=0 then{w with al:=w.al.take e.word.toNat++w.al.drop (e.word.toNat+1)} else w)=w1 at*;split
  .exact h1
  split
  .exact Wm h1 _
  rename_i bq;have eO:0<=(ab w.al e.word.toNat).to/\(ab w.al e.word.toNat).to<=3:=by
   have:=(ma hm).2.2.1;simp only[lH,cM,aJ,Bool.or_eq_true,Bool.and_eq_true,decide_eq_true_eq] at this bq;omega
  have hi:(ab w.al e.word.toNat).to.toNat<4:=by omega
  have Br:=(h.site _ hi).2;have:=(h1.server hi (s:=(cN (ab w.aC (ab w.al e.word.toNat).to.toNat) (ab w.al e.word.toNat)).1) (ail Br) (by rw[ahe,iR])).send (V9 (m:=ab w.al e.word.toNat) Br);rw[<-iR] at this⊢;exact this
 exact h
def Wn {w:ai} (h:bX w) (e:Ev) (ao:(g7 w e).2=true):bX (g7 w e).1:=by
 unfold g7 at*;split at ao
 .rename_i hk;rw[if_pos hk];unfold kb at*;split at ao
  .rename_i hc;rw[if_pos hc];exact⟨h.time,h.aC,h.site,h.al,h.words,h.seen,h.kG,ao⟩
  cases ao
 rename_i hk;rw[if_neg hk];dsimp only at ao⊢;split
 .exact h
 rename_i hn;obtain⟨h1,h2,h3⟩:=na (l:=w.calls) (aj:=e.aj) om;have hq:=h.call h1;obtain⟨he,_⟩:=oZ h3;split
 .refine h.VY h1 h3 ⟨hq.aj,hq.num,hq.keys,hq.val,hq.ctx,hq.aL,hq.bH,hq.fits,hq.has,hq.sorted,hq.aN,hq.xA,hq.full,hq.put,hq.read,hq.open_,λe=>absurd he e⟩ rfl rfl rfl
 exact h.send (MZ hq)
def Wo {w:ai} (h:bX w) (e:Ev) (ao:(cD w e).2=true):bX (cD w e).1:=by
 have h1:=h.later;unfold cD at*;dsimp only at ao⊢;split
 .rename_i hk;rw[if_pos hk] at ao;exact Wn h1 e ao
 split
 .exact ai1 h1 e
 split
 .rename_i hk;rw[Bool.and_eq_true] at hk;exact ahf h1 e hk.2
 exact h1
def ai2 (s:Server) (m:az) (hg:bJ s):
 Fn prog 275 [s.av,m.av] (AV.dG [(cN s m).1.av,dM (cN s m).2]):=by
 refine Fn.go 118 func275 ntmps275 (λW I a U=>?_);have ao:=jX.2 hg;have dq:=hg.ok;refine aG λI a w U=>?_;refine U.alloc rfl cA dS λb4 I a w U=>?_;refine aB λI a w U=>?_;refine U.l0 λmG I a w U=>?_;obtain⟨I,U⟩:=U.fr 1 11;refine aG λI a w U=>?_;refine U.o (.c1 (xq ..)) λU=>?_;refine aB λI a w U=>?_;refine U.cd (λae=>?_) λae=>?_
 .exfalso;rw[ao] at ae;cases ae;skip
 refine bD λI a w U=>?_;refine U.o (.c1 (Dr s hg.small)) λU=>U.alloc rfl cA dS λb7 I a w U=>?_;refine dZ λI a w U=>?_;refine U.q .F (.cl (Mo ..)) λU=>?_;refine oE λI a w U=>?_;refine U.cd (λah=>?_) λah=>?_
 .rw[Gp] at ah;replace ah:=nt ah;refine aX λI a w U=>?_;refine U.ret rfl (.cons (.sx 0) (.cons .x aV.nil)) ?_;exact(by unfold cN;rw[ah];rfl)
 rw[Gp] at ah;replace ah:=nf ah;have hm:=(KH ah).2;refine aG λI a w U=>?_;refine nn ?_;refine St.cut (σ:=Server×List az) (run 3 8 (run 77 37 [])) ⟨λ⟨u,ws⟩=>[(8,dM ws)],λ⟨u,ws⟩=>[Own.box b4 95 [AV.val (.int .i64 0),AV.val (.bool false),AV.rows 2 [],AV.rows 7 [],AV.rows 7 [],AV.rows 3 [],AV.rows 3 []],Own.gone,Own.box b7 95 u.cells],λ⟨u,ws⟩=>dh s m=(u,ws)⟩ U ?M8 ?ai3;case M8=>
  refine aX λI a w U=>?_;refine cz (λaq=>?_) λaq=>?_
  .refine aG λI a w U=>?_;refine U.o (.c2 (aiQ s m hg hm)) λU=>?_;refine cF λI a w U=>?_;have U:=U.drop 3;exact U.me ((gC s m).1,(gC s m).2) (by first|exact sR aq|exact sS aK|exact sT aS|exact sU bA|exact uB bt cr dq.an|exact uC bt cr dq.an|exact sV dC|exact sW gh|exact sX jP|exact uD aq aK aS bA bt dC gh jP)
  refine aF λI a w U=>?_;refine cz (λaK=>?_) λaK=>?_
  .refine aG λI a w U=>?_;refine U.o (.c2 (aiy s m ao)) λU=>?_;refine aB λI a w U=>?_;have U:=U.drop 3;exact U.me (s,gR s m) (by first|exact sR aq|exact sS aK|exact sT aS|exact sU bA|exact uB bt cr dq.an|exact uC bt cr dq.an|exact sV dC|exact sW gh|exact sX jP|exact uD aq aK aS bA bt dC gh jP)
  refine aF λI a w U=>?_;refine cz (λaS=>?_) λaS=>?_
  .refine aG λI a w U=>?_;refine U.o (.c2 (agS s m hg hm)) λU=>?_;refine cF λI a w U=>?_;have U:=U.drop 3;exact U.me ((gu s m).1,(gu s m).2) (by first|exact sR aq|exact sS aK|exact sT aS|exact sU bA|exact uB bt cr dq.an|exact uC bt cr dq.an|exact sV dC|exact sW gh|exact sX jP|exact uD aq aK aS bA bt dC gh jP)
  refine aF λI a w U=>?_;refine cz (λbA=>?_) λbA=>?_
  .refine aG λI a w U=>?_;refine U.o (.c2 (agj s m dq (iP hg.aE) hm)) λU=>?_;refine aB λI a w U=>?_;have U:=U.drop 3;exact U.me (jw s m,[]) (by first|exact sR aq|exact sS aK|exact sT aS|exact sU bA|exact uB bt cr dq.an|exact uC bt cr dq.an|exact sV dC|exact sW gh|exact sX jP|exact uD aq aK aS bA bt dC gh jP)
  refine aF λI a w U=>?_;refine cz (λbt=>?_) λbt=>?_
  .refine dZ λI a w U=>?_;refine U.o (.cl (vr ..)) λU=>?_;refine bk λI a w U=>?_;refine U.alloc rfl bL ee λb9 I a w U=>?_;refine U.sb 3 λU=>?_;obtain⟨I,U⟩:=U.fb 3 9;refine aB λI a w U=>?_;refine U.dk ?_;refine iA ?_;refine .q .T (.cl (AI _ hg.site)) ?_;refine cG ?_;refine .nil ?_;intro I a w U;refine bm ?_;refine U.cd (λcr=>?_) λcr=>?_
   .refine mz λI a w U=>?_;refine U.o (.bd eU (.k (.k (.k (.k (.t aZ.nil)))))) λU=>?_;refine U.o (.li [(mZ s m).cells] iN (.u .nil)) λU=>?_;refine aB λI a w U=>?_;have U:=U.drop 3;exact U.me (s,[mZ s m]) (by first|exact sR aq|exact sS aK|exact sT aS|exact sU bA|exact uB bt cr dq.an|exact uC bt cr dq.an|exact sV dC|exact sW gh|exact sX jP|exact uD aq aK aS bA bt dC gh jP)
   refine zt ?_;have U:=U.drop 3;exact U.me (s,[]) (by first|exact sR aq|exact sS aK|exact sT aS|exact sU bA|exact uB bt cr dq.an|exact uC bt cr dq.an|exact sV dC|exact sW gh|exact sX jP|exact uD aq aK aS bA bt dC gh jP)
  refine aF λI a w U=>?_;refine cz (λdC=>?_) λdC=>?_
  .refine aG λI a w U=>?_;refine U.o (.c2 (agC s m dq hg.site)) λU=>?_;refine aB λI a w U=>?_;have U:=U.drop 3;exact U.me (ib s m,[]) (by first|exact sR aq|exact sS aK|exact sT aS|exact sU bA|exact uB bt cr dq.an|exact uC bt cr dq.an|exact sV dC|exact sW gh|exact sX jP|exact uD aq aK aS bA bt dC gh jP)
  refine aF λI a w U=>?_;refine cz (λgh=>?_) λgh=>?_
  .refine aG λI a w U=>?_;refine U.o (.c2 (aiT s m hg hm)) λU=>?_;refine cF λI a w U=>?_;have U:=U.drop 3;exact U.me ((gq s m).1,(gq s m).2) (by first|exact sR aq|exact sS aK|exact sT aS|exact sU bA|exact uB bt cr dq.an|exact uC bt cr dq.an|exact sV dC|exact sW gh|exact sX jP|exact uD aq aK aS bA bt dC gh jP)
  refine aF λI a w U=>?_;refine cz (λjP=>?_) λjP=>?_
  .refine aG λI a w U=>?_;refine U.o (.c2 (aeT s m dq hg.site (iP hg.aE) hm)) λU=>?_;refine aB λI a w U=>?_;have U:=U.drop 3;exact U.me (jL s m,[]) (by first|exact sR aq|exact sS aK|exact sT aS|exact sU bA|exact uB bt cr dq.an|exact uC bt cr dq.an|exact sV dC|exact sW gh|exact sX jP|exact uD aq aK aS bA bt dC gh jP)
  refine zt ?_;have U:=U.drop 3;exact U.me (s,[]) (by first|exact sR aq|exact sS aK|exact sT aS|exact sU bA|exact uB bt cr dq.an|exact uC bt cr dq.an|exact sV dC|exact sW gh|exact sX jP|exact uD aq aK aS bA bt dC gh jP)
 rintro⟨u,ws⟩ I a w ao U;have hu:bJ u:=by have:=MW hg hm (KH ah).1;rw[ao] at this;exact this
 have hw:∀y∈ws,bK y=true:=by have:=MX hg hm;rw[ao] at this;exact this
 refine bD λI a w U=>?_;refine U.o (.c1 (Dr u hu.small)) λU=>U.m λU=>?_;refine U.o (bO (Ld ws (by have:=VM s m;rw[ao] at this;have:ws.length<=1:=this;omega) (λy hy=>yT (hw y hy))) (ax .r aH)) λU=>?_;refine aF λI a w U=>?_;refine U.ret rfl (.cons (.sx 0) (.cons .x aV.nil)) ?_;exact(by unfold cN;rw[ah,if_pos rfl,ao];rfl)
def ai4 (x:ai) (m:az) (hg:bX x) (ht:x.time<=1000000) (eO:aJ m.to 10 11=true):
 Fn prog 274 [x.av,m.av] ((jC x m).av):=by
 refine Fn.go 52 func274 ntmps274 (λW I a U=>?_);simp only[aJ,Bool.and_eq_true,decide_eq_true_eq] at eO;have nP:=hg.lens;have xF:=hg.seen;have Bq:=hg.time;refine sr<|U.box rfl .tt λb2 I a w U=>U.o .bp λU=>U.alloc rfl dP dW λb4 I a w U=>?_;refine g9 λI a w U=>?_;refine U.o (.cl (Gt x.calls (m.to-10))) λU=>?_;refine aR λI a w U=>?_;refine cz (λae=>?_) λae=>?_
 .refine aF λI a w U=>?_;refine U.ret rfl (.cons (.sx 1) aV.nil) ?_;exact(by unfold jC;dsimp only;rw[if_pos ae];rfl)
 obtain⟨h1,h2,h3⟩:=na ae;have hq:=Bo (m:=m) (hg.call h1);have hqe:=hq.DO om;have Qq:=hq.bH;refine zt ?_;refine U.da 10 ?_;simp only[TD];refine ny ?_;refine .o (.c3 (aia _ m x.time (hg.call h1) ht))<|gW.alloc eJ im<|.nil ?_;intro I a w U;obtain⟨b7,U⟩:=U.u6 (d:=7) rfl;refine aB λI a w U=>?_;obtain⟨I,U⟩:=U.fb 2 7;refine U.l0 λb27 I a w U=>?_;refine aG λI a w U=>?_;refine U.ap 3 λv30 a w U=>?_;simp only[List.nil_append] at U;refine U.o .fv λU=>?_;try have arZ:=U.fI 3 rfl
 refine aB λI a w U=>?_;obtain⟨DY,DZ,tc⟩:=U.ku 3 rfl qh;subst tc;refine bx λI a w U=>?_;refine U.o (jF mR eJ .tt .tt (λ_=>by simp only[List.length_map];omega)) λU=>?_;refine U.mn 3 eJ .tt .tt rfl (by exact gB om) rfl rfl λa w U=>?_;refine nn ?_;refine St.cut (σ:=List (List aw)) (run 14 37 []) ⟨λsn=>[],λsn=>[Own.box b2 28 [AV.int x.time,lG x.aC,dM x.al,iL (x.calls.set (cq x.calls (m.to-10)).toNat (cQ (ab x.calls (cq x.calls (m.to-10)).toNat) m x.time)),j8 sn],Own.box b4 28 [AV.val (.int .i64 0),AV.rows 7 [],AV.rows 15 [],AV.rows 13 [],AV.rows 1 []],Own.gone,Own.gone],λsn=>sn=if 0<Call.end_ (cQ (ab x.calls (cq x.calls (m.to-10)).toNat) m x.time) then x.seen.set (m.to-10).toNat (gJ (cQ (ab x.calls (cq x.calls (m.to-10)).toNat) m x.time)) else x.seen⟩ U ?M8 ?ai3;case M8=>
  refine wp_seq ?_;have e9:∀y,y=Call.cells (cQ (ab x.calls (cq x.calls (m.to-10)).toNat) m x.time)->(List.map Call.cells x.calls).set (cq x.calls (m.to-10)).toNat y=List.map Call.cells (x.calls.set (cq x.calls (m.to-10)).toNat (cQ (ab x.calls (cq x.calls (m.to-10)).toNat) m x.time)):=λy hy=>by rw[hy,List.map_set]
  rw[e9] at U;rotate_left
  .rfl
  obtain⟨I,U⟩:=U.fu 3 3 0;refine aR λI a w U=>?_;refine cz (λah=>?_) λah=>?_
  .refine zt ?_;refine U.l0 λb40 I a w U=>?_;refine aG λI a w U=>?_;refine U.ap 4 λGX a w U=>?_;simp only[List.nil_append] at U;refine U.o .fv λU=>?_;try have agH:=U.fI 4 rfl
   refine aB λI a w U=>?_;obtain⟨bk2,ck2,ek2⟩:=U.ku 4 rfl qh;subst ek2;refine U.dt 6 ?_;simp only[TD];refine eb ?_;refine .o (bO (aih (cQ (ab x.calls (cq x.calls (m.to-10)).toNat) m x.time) x.time (uy.2 hq) om om (by have:=hq.lens.2.2.2.2.1;omega)) (ax (.t rfl) aH)) ?_;refine .o (jF Cz qz .tt .tt (λ_=>by simp only[List.length_map];omega)) ?_;refine .nil ?_;intro I a w U;refine U.Cb (j:=0) 4 qz .tt .tt (by first|exact j6 rfl|exact kg|exact kh|exact kr|assumption) rfl (by exact gB om) rfl rfl λa w U=>?_;refine wpList_nil ?_;have e8:∀y,y=gy (gJ (cQ (ab x.calls (cq x.calls (m.to-10)).toNat) m x.time))->(List.map gy x.seen).set (m.to-10).toNat y=List.map gy (x.seen.set (m.to-10).toNat (gJ (cQ (ab x.calls (cq x.calls (m.to-10)).toNat) m x.time))):=λy hy=>by rw[hy,List.map_set]
   rw[e8] at U;rotate_left
   .rfl
   obtain⟨I,U⟩:=U.fu 4 4 0;refine bm ?_;have U:=U.drop 4;exact U.me (x.seen.set (m.to-10).toNat (gJ (cQ (ab x.calls (cq x.calls (m.to-10)).toNat) m x.time))) (by first|exact(if_pos ah).symm|exact(if_neg om).symm)
  refine zt ?_;have U:=U.drop 4;exact U.me x.seen (by first|exact(if_pos ah).symm|exact(if_neg om).symm)
 rintro sn I a w ao U;have Wp:sn=if 0<Call.end_ (cQ (ab x.calls (cq x.calls (m.to-10)).toNat) m x.time) then x.seen.set (m.to-10).toNat (gJ (cQ (ab x.calls (cq x.calls (m.to-10)).toNat) m x.time)) else x.seen:=ao
 refine aF λI a w U=>?_;refine U.ret rfl (.cons (.sx 1) aV.nil) ?_;unfold jC;dsimp only;rw[if_neg om];split
 .rename_i hh;rw[Wp,if_pos hh];rfl
 rename_i hh;rw[Wp,if_neg hh];rfl
def Reach.aN {w:ai} (h:Reach w):bX w:=by
 induction h with
 |start=>exact(fD.1 Bf).1
 |step _ ao ih=>exact Wo ih _ ao
def c9.al {n:Nat} {s:ew} (h:c9 n s):s.w.al.length<=60:=h.reach.aN.al
def oS (bs br:Nat) (code:List UInt8) (s:ew) (p:Int):List Own:=[Own.box bs 91 [AV.val (.pointer (some ⟨br,0,none⟩)),AV.int s.w.time,lG s.w.aC,dM s.w.al,iL s.w.calls,j8 s.w.seen,AV.val s.lv],Own.row s.lv 49 11 (s.list.map Ev.cells),Own.box br 147 [gn code,AV.int (p)]]
structure Inv (w:ai):Prop where
 aN:bX w
 fits:∀i,i<4->∀k,k<3->lB (ab (sv w i).aD k) (ab (sv w (bP i)).aD k)=true
 p9:∀i,i<4->∀v∈(sv w i).an,behind (sv w i) (sv w (bP i)) (vk v)->v∈(sv w (bP i)).an
 te:∀i,i<4->∀v∈(sv w i).waits,behind (sv w i) (sv w (bP i)) (vk v)->v∈(sv w (bP i)).an\/v∈(sv w (bP i)).waits
 D1:∀i,i<4->∀v∈(sv w i).an,∀d∈v.aQ,∃u,u.aU=d/\be w (i/2) u
 lU:∀i,i<4->∀v∈(sv w i).waits,be w (1-i/2) v
 ba:∀i,i<4->∀d∈(sv w i).ba,∃u,u.aU=d/\be w (i/2) u
 aE:∀i,i<4->∀d∈(sv w i).aE,bM d.ar.site=((i/2:Nat):Int)
 q8:∀i,i<4->∀v∈(sv w i).an,bM v.ar.site=((i/2:Nat):Int)->¬behind (sv w i) (sv w (bP i)) (vk v)->v.aU∈(sv w i).aE\/mY w (1-i/2) v
 home:∀σ v,be w σ v->bM v.ar.site=v.aj/\be w v.aj.toNat v
 uniq:∀σ τ u v,be w σ u->be w τ v->u.aU=v.aU->u=v
 once:∀σ τ u v,be w σ u->be w τ v->u.aj=v.aj->u.call=v.call->u=v
 made:∀σ v,be w σ v->∃q∈w.calls,q.aj=v.aj/\q.num=v.call/\q.kind=1/\ab q.keys 0=v.key/\q.val=v.val/\q.ctx=v.aQ
 done:∀q∈w.calls,q.kind=1->q.end_≠0->∃v,be w q.aj.toNat v/\v.aj=q.aj/\v.call=q.num/\v.key=ab q.keys 0/\v.ar=q.ar
 ctx:∀q∈w.calls,nK w q.aj.toNat q.ctx
 seen:∀k,k<2->nK w k (ab w.seen k)
 au:∀q∈w.calls,nQ w q
 kG:∀i,i<w.calls.length->gJ (ab w.calls i)=oj w i
 fresh:∀k:Nat,k<2->(∀q∈w.calls,q.aj≠(k:Int))->ab w.seen k=[]
 words:∀m∈w.al,eL w m
def eL.ext {w x:ai} (h:Ext w x) {m:az} (hm:bK m=true) (g:eL w m) (h9:m.kind=9->m.aT.toNat<4->yG (sv w m.aT.toNat) m->m.bw<=ep x (bP m.aT.toNat) m.slot.toNat\/yG (sv x m.aT.toNat) m):eL x m where
 k1 e:=by
  obtain⟨q,hq,a1,a2,a3,a4,a5,a6,a7⟩:=g.k1 e;obtain⟨p,hp,s1,s2,s3,s4,s5,s6⟩:=h.calls q hq;exact⟨p,hp,by rw[s1];exact a1,by rw[s2];exact a2,by rw[s1];exact a3,by rw[s3];exact a4,by rw[s4];exact a5,by rw[s5];exact a6,by rw[s6];exact a7⟩
 k2 e:=by
  obtain⟨v,a1,a2⟩:=g.k2 e;exact⟨v,h.eC a1,a2⟩
 k3 e:=by
  obtain⟨q,hq,a1,a2,a3⟩:=g.k3 e;obtain⟨p,hp,s1,s2,s3,s4,s5,s6⟩:=h.calls q hq;exact⟨p,hp,by rw[s1];exact a1,by rw[s2];exact a2,by rw[s1];exact a3⟩
 k4 e:=by
  obtain⟨q,hq,a1,a2,a3,a4⟩:=g.k4 e;obtain⟨p,hp,s1,s2,s3,s4,s5,s6⟩:=h.calls q hq;refine⟨p,hp,by rw[s1];exact a1,by rw[s2];exact a2,λhy=>?_,λhy=>?_⟩
  .obtain⟨v,b1,b2,b3,b4,b5⟩:=a3 hy;exact⟨v,b1,b2,by rw[s1];exact h.eC b3,by rw[s6];exact b4,b5⟩
  rw[s6];exact a4 hy
 k5 e:=by
  obtain⟨v,a1,a2,a3⟩:=g.k5 e;exact⟨v,a1,h.eC a2,a3⟩
 k6 e:=by
  obtain⟨v,a1,a2⟩:=g.k6 e;exact⟨v,a1,h.cont a2⟩
 k8 e:=by
  obtain⟨v,a1,a2⟩:=g.k8 e;exact⟨v,a1,h.eC a2⟩
 k9 e:=by
  obtain⟨hl,a|a⟩:=g.k9 e
  .exact⟨hl,.inl (Int.le_trans a (h.ep _ (j1 hl) _ (KJ hm)))⟩
  exact⟨hl,h9 e hl a⟩
 ow e:=⟨(g.ow e).1,Int.le_trans (g.ow e).2 (h.ep _ (g.ow e).1 _ (KJ hm))⟩
def Inv.cT {w:ai} (h:Inv w) {i:Nat} (hi:i<4):bJ (sv w i):=(h.aN.site i hi).2
def Inv.site {w:ai} (h:Inv w) {i:Nat} (hi:i<4):(sv w i).site=(i:Int):=(h.aN.site i hi).1
def Inv.owner {w:ai} (h:Inv w) {i:Nat} (hi:i<4) {v:aA} (hv:be w (i/2) v) (U:cP (sv w i) v.key=1):v∈(sv w i).an:=by
 rcases hv.cases with hv|hv
 .exact hv
 have hb:behind (sv w (bP i)) (sv w (bP (bP i))) (vk v):=by
  rw[jA];exact U1 (h.fits i hi _ (sO (jn (h.cT (j1 hi)) (.inl hv)))) U
 have:=h.p9 _ (j1 hi) v hv hb;rwa[jA] at this
def mY.eC {w:ai} (h:Inv w) {σ:Nat} {v:aA} (hc:mY w σ v):∃τ,be w τ v:=by
 obtain⟨i,hi,e,hv|hv⟩:=hc
 .exact⟨_,i,hi,e,hv⟩
 exact⟨_,h.lU i hi v hv⟩
structure pf (w:ai) (i:Nat) (s:Server) (n:Option aA):Prop where
 aN:bJ s
 site:s.site=(sv w i).site
 aD:s.aD=(sv w i).aD
 an:∀v∈(sv w i).an,v∈s.an
 cont:∀v∈(sv w i).waits,v∈s.an\/v∈s.waits
 D2:∀v∈s.an,v∈(sv w i).an\/(cP (sv w i) v.key=1/\(∀d∈v.aQ,∃u,u.aU=d/\be w (i/2) u)/\(be w (1-i/2) v\/n=some v))
 M9:∀v∈s.waits,v∈(sv w i).waits\/(cP (sv w i) v.key=1/\be w (1-i/2) v)
 ai6:∀v∈(sv w i).waits,cP (sv w i) v.key≠1->v∈s.waits
 ba:∀d∈s.ba,d∈(sv w i).ba\/∃u,u.aU=d/\be w (i/2) u
 aE:∀d∈s.aE,d∈(sv w i).aE\/∃v,n=some v/\d=v.aU
 uE:∀d∈(sv w i).aE,d∈s.aE\/((ab (sv w i).aD (cV d.key).toNat).cm=1/\∀v∈(sv w i).an,v.aU=d->mY w (1-i/2) v)
 new:∀v,n=some v->v∈s.an/\v.aU∈s.aE/\cP (sv w i) v.key=1/\bM v.ar.site=v.aj/\v.aj=((i/2:Nat):Int)/\(∀σ u,be w σ u->u.aU≠v.aU/\¬(u.aj=v.aj/\u.call=v.call))/\
  ∃q∈w.calls,q.aj=v.aj/\q.num=v.call/\q.kind=1/\ab q.keys 0=v.key/\q.val=v.val/\q.ctx=v.aQ
def pf.ext {w:ai} (h:Inv w) {i:Nat} (hi:i<4) {s:Server} {n:Option aA} (g:pf w i s n):Ext w (eB w i s) where
 eC:=λ{σ v} ⟨j,hj,e,hv⟩=>⟨j,hj,e,by
  rw[xy h.aN hi];split
  .rename_i ej;subst ej;exact g.an v hv
  exact hv⟩
 cont:=λ{σ v} ⟨j,hj,e,hv⟩=>⟨j,hj,e,by
  rw[xy h.aN hi];split
  .rename_i ej;subst ej;rcases hv with hv|hv
   .exact .inl (g.an v hv)
   exact g.cont v hv
  exact hv⟩
 ep:=λj hj k hk=>by
  unfold Go.Proofs.YtldbakcpcfdlaaaGreat.ep;rw[xy h.aN hi];split
  .rename_i ej;subst ej;rw[g.aD];exact Int.le_refl _
  exact Int.le_refl _
 calls:=λq hq=>⟨q,hq,j2.refl q⟩
def pf.back {w:ai} (h:Inv w) {i:Nat} (hi:i<4) {s:Server} {n:Option aA} (g:pf w i s n) {σ:Nat} {v:aA} (hv:be (eB w i s) σ v):(∃τ,be w τ v)\/n=some v:=by
 obtain⟨j,hj,e,hv⟩:=hv;rw[xy h.aN hi] at hv;split at hv
 .rename_i ej;subst ej;rcases g.D2 v hv with h1|⟨_,_,h1|h1⟩
  .exact .inl ⟨_,be.here hj h1⟩
  .exact .inl ⟨_,h1⟩
  exact .inr h1
 exact .inl ⟨_,j,hj,e,hv⟩
def pf.inv {w:ai} (h:Inv w) {i:Nat} (hi:i<4) {s:Server} {n:Option aA} (g:pf w i s n):Inv (eB w i s):=by
 have hx:=g.ext h hi;have ka:∀j,(sv (eB w i s) j).aD=(sv w j).aD:=λj=>by
  rw[xy h.aN hi];split
  .rename_i e;subst e;exact g.aD
  rfl
 have hb:∀j k,behind (sv (eB w i s) j) (sv (eB w i s) (bP j)) k↔behind (sv w j) (sv w (bP j)) k:=λj k=>adr (ka j) (ka (bP j));have eH:∀{v:aA},dN v=true->cP (sv w i) v.key=1->¬behind (sv w i) (sv w (bP i)) (vk v):=λhv bj=>U0 (h.fits i hi _ (sO hv)) bj;have xG:bP i≠i:=Lv i;have j7:=j1 hi;have aW:∀j,j≠i->sv (eB w i s) j=sv w j:=λj hj=>Bg h.aN hi s hj;have fL:sv (eB w i s) i=s:=o7 h.aN hi s;have hVs:∀{v},v∈(sv w i).an->v∈(sv (eB w i s) i).an:=λhv=>by rw[fL];exact g.an _ hv
 have hCs:∀{v},v∈(sv w i).an\/v∈(sv w i).waits->v∈(sv (eB w i s) i).an\/v∈(sv (eB w i s) i).waits:=λhv=>by
  rw[fL];rcases hv with hv|hv
  .exact .inl (g.an _ hv)
  exact g.cont _ hv
 have ai9:∀j v,j<4->v∈(sv w j).an->v∈(sv (eB w i s) j).an:=λj v hj hv=>by
  by_cases e:j=i
  .subst e;exact hVs hv
  rw[aW j e];exact hv
 have aja:∀j v,j<4->(v∈(sv w j).an\/v∈(sv w j).waits)->(v∈(sv (eB w i s) j).an\/v∈(sv (eB w i s) j).waits):=λj v hj hv=>by
  by_cases e:j=i
  .subst e;exact hCs hv
  rw[aW j e];exact hv
 have uw:∀v,n=some v->be (eB w i s) v.aj.toNat v:=λv e=>by
  have:=g.new v e;refine⟨i,hi,by omega,?_⟩;rw[fL];exact this.1
 refine⟨Vs h.aN hi g.aN g.site,?_,?_,?_,?_,?_,?_,?_,?_,?_,?_,?_,?_,?_,?_,?_,?_,h.kG,h.fresh,?_⟩
 .intro j hj k hk;rw[ka,ka];exact h.fits j hj k hk
 .intro j hj v hv qc;rw[hb] at qc;apply ai9 _ _ (j1 hj);by_cases e:j=i
  .subst e;rw[fL] at hv;rcases g.D2 v hv with h1|⟨h1,_⟩
   .exact h.p9 j hj v h1 qc
   exact absurd qc (eH (fw g.aN.an v hv) h1)
  rw[aW j e] at hv;exact h.p9 j hj v hv qc
 .intro j hj v hv qc;rw[hb] at qc;apply aja _ _ (j1 hj);by_cases e:j=i
  .subst e;rw[fL] at hv;rcases g.M9 v hv with h1|⟨h1,_⟩
   .exact h.te j hj v h1 qc
   exact absurd qc (eH (fw g.aN.waits v hv) h1)
  rw[aW j e] at hv;exact h.te j hj v hv qc
 .intro j hj v hv d hd;have key:v∈(sv w j).an->∃u,u.aU=d/\be (eB w i s) (j/2) u:=λhv=>let⟨u,e1,e2⟩:=h.D1 j hj v hv d hd;⟨u,e1,hx.eC e2⟩;by_cases e:j=i
  .subst e;rw[fL] at hv;rcases g.D2 v hv with h1|⟨_,h1,_⟩
   .exact key h1
   obtain⟨u,e1,e2⟩:=h1 d hd;exact⟨u,e1,hx.eC e2⟩
  rw[aW j e] at hv;exact key hv
 .intro j hj v hv;by_cases e:j=i
  .subst e;rw[fL] at hv;rcases g.M9 v hv with h1|⟨_,h1⟩
   .exact hx.eC (h.lU j hj v h1)
   exact hx.eC h1
  rw[aW j e] at hv;exact hx.eC (h.lU j hj v hv)
 .intro j hj d hd;by_cases e:j=i
  .subst e;rw[fL] at hd;rcases g.ba d hd with h1|⟨u,e1,e2⟩
   .obtain⟨u,e1,e2⟩:=h.ba j hj d h1;exact⟨u,e1,hx.eC e2⟩
   exact⟨u,e1,hx.eC e2⟩
  rw[aW j e] at hd;obtain⟨u,e1,e2⟩:=h.ba j hj d hd;exact⟨u,e1,hx.eC e2⟩
 .intro j hj d hd;by_cases e:j=i
  .subst e;rw[fL] at hd;rcases g.aE d hd with h1|⟨v,e1,rfl⟩
   .exact h.aE j hj d h1
   obtain⟨_,_,_,a1,a2,_⟩:=g.new v e1;show bM v.ar.site=_;rw[a1,a2]
  rw[aW j e] at hd;exact h.aE j hj d hd
 .intro j hj v hv iR qc;rw[hb] at qc;by_cases e:j=i
  .subst e;rw[fL] at hv⊢;rcases g.D2 v hv with h1|⟨_,_,h1|h1⟩
   .rcases h.q8 j hj v h1 iR qc with h2|h2
    .rcases g.uE _ h2 with h3|⟨_,h3⟩
     .exact .inl h3
     exact .inr (hx.cont (h3 v h1 rfl))
    exact .inr (hx.cont h2)
   .exact .inr (hx.eC h1).cont
   exact .inl (g.new v h1).2.1
  rw[aW j e] at hv⊢;rcases h.q8 j hj v hv iR qc with h2|h2
  .exact .inl h2
  exact .inr (hx.cont h2)
 .intro σ v hv;rcases g.back h hi hv with⟨τ,h1⟩|h1
  .have:=h.home τ v h1;exact⟨this.1,hx.eC this.2⟩
  exact⟨(g.new v h1).2.2.2.1,uw v h1⟩
 .intro σ τ u v hu hv hd;rcases g.back h hi hu with⟨_,h1⟩|h1<;>rcases g.back h hi hv with⟨_,h2⟩|h2
  .exact h.uniq _ _ u v h1 h2 hd
  .exact absurd hd ((g.new v h2).2.2.2.2.2.1 _ u h1).1
  .exact absurd hd.symm ((g.new u h1).2.2.2.2.2.1 _ v h2).1
  rw[h1] at h2;exact Option.some.inj h2
 .intro σ τ u v hu hv hc hn;rcases g.back h hi hu with⟨_,h1⟩|h1<;>rcases g.back h hi hv with⟨_,h2⟩|h2
  .exact h.once _ _ u v h1 h2 hc hn
  .exact absurd ⟨hc,hn⟩ ((g.new v h2).2.2.2.2.2.1 _ u h1).2
  .exact absurd ⟨hc.symm,hn.symm⟩ ((g.new u h1).2.2.2.2.2.1 _ v h2).2
  rw[h1] at h2;exact Option.some.inj h2
 .intro σ v hv;rcases g.back h hi hv with⟨_,h1⟩|h1
  .exact h.made _ v h1
  exact(g.new v h1).2.2.2.2.2.2
 .intro q hq h1 h2;obtain⟨v,a,b⟩:=h.done q hq h1 h2;exact⟨v,hx.eC a,b⟩
 .exactλq hq=>(h.ctx q hq).ext hx
 .exactλk hk=>(h.seen k hk).ext hx
 .exactλq hq=>(h.au q hq).ext hx
 intro m hm;refine(h.words m hm).ext hx (h.aN.words m hm) λe9 hl hf=>.inr ?_;by_cases e:m.aT.toNat=i
 .rw[e] at hf⊢;rw[fL];obtain⟨f1,f2,f3,f4⟩:=hf;have ar3:=qJ (h.aN.words m hm);have bj:∀key,cV key=m.slot->cP (sv w i) key=1->False:=λkey ek hk=>by
   unfold cP at hk;rw[ek,f1] at hk;cases hk
  refine⟨by rw[g.aD];exact f1,λv=>(f2 v).trans ⟨λ⟨a,b⟩=>⟨g.an v a,b⟩,λ⟨a,b⟩=>⟨?_,b⟩⟩,λv=>(f3 v).trans ⟨λ⟨a,b⟩=>⟨g.ai6 v a λhk=>bj _ b hk,b⟩,λ⟨a,b⟩=>⟨?_,b⟩⟩,λd=>(f4 d).trans ⟨λ⟨a,b⟩=>⟨?_,b⟩,λ⟨a,b⟩=>⟨?_,b⟩⟩⟩
  .rcases g.D2 v a with h1|⟨h1,_⟩
   .exact h1
   exact(bj _ b h1).elim
  .rcases g.M9 v a with h1|⟨h1,_⟩
   .exact h1
   exact(bj _ b h1).elim
  .rcases g.uE d a with h1|⟨h1,_⟩
   .exact h1
   exact(bj _ b h1).elim
  rcases g.aE d a with h1|⟨v,e1,rfl⟩
  .exact h1
  exact(bj _ b (g.new v e1).2.2.1).elim
 rw[aW _ e];exact hf
structure vU (w:ai) (i:Nat) (s:Server) (k:Nat):Prop where
 aN:bJ s
 site:s.site=(sv w i).site
 aD:∀j,j<3->j≠k->ab s.aD j=ab (sv w i).aD j
 an:∀v,dN v=true->vk v≠k->(v∈s.an↔v∈(sv w i).an)
 waits:∀v,dN v=true->vk v≠k->(v∈s.waits↔v∈(sv w i).waits)
 Hj:∀d:aw,(cV d.key).toNat≠k->(d∈s.aE↔d∈(sv w i).aE)
 ba:∀d∈s.ba,d∈(sv w i).ba
 fits:lB (ab s.aD k) (ab (sv w (bP i)).aD k)=true
 ep:(ab (sv w i).aD k).bw<=(ab s.aD k).bw
 back:∀v∈s.an,vk v=k->be w (i/2) v
 ajb:∀v∈s.waits,vk v=k->be w (1-i/2) v
 eC:∀v∈(sv w i).an,vk v=k->v∈s.an\/v∈(sv w (bP i)).an
 cont:∀v∈(sv w i).waits,vk v=k->(v∈s.an\/v∈s.waits)\/(v∈(sv w (bP i)).an\/v∈(sv w (bP i)).waits)
 Bs:behind s (sv w (bP i)) k->∀v∈s.an,vk v=k->v∈(sv w (bP i)).an
 ajc:behind (sv w (bP i)) s k->∀v∈(sv w (bP i)).an,vk v=k->v∈s.an
 ajd:behind s (sv w (bP i)) k->∀v∈s.waits,vk v=k->v∈(sv w (bP i)).an\/v∈(sv w (bP i)).waits
 aje:behind (sv w (bP i)) s k->∀v∈(sv w (bP i)).waits,vk v=k->v∈s.an\/v∈s.waits
 aE:∀d∈s.aE,(cV d.key).toNat=k->bM d.ar.site=((i/2:Nat):Int)
 ajf:¬behind s (sv w (bP i)) k->∀v∈s.an,vk v=k->bM v.ar.site=((i/2:Nat):Int)->v.aU∈s.aE\/mY w (1-i/2) v
 ajg:¬behind (sv w (bP i)) s k->∀v∈(sv w (bP i)).an,vk v=k->bM v.ar.site=((i/2:Nat):Int)->v.aU∈(sv w (bP i)).aE\/mY w (1-i/2) v
 hold:(ab (sv w i).aD k).cm=2->(ab (sv w i).aD k).bw<=(ab (sv w (bP i)).aD k).bw
def vU.ext {w:ai} (h:Inv w) {i:Nat} (hi:i<4) {s:Server} {k:Nat} (g:vU w i s k):Ext w (eB w i s) where
 eC:=λ{σ v} ⟨j,hj,e,hv⟩=>by
  by_cases ej:j=i
  .subst ej;have fl:=jn (h.cT hj) (.inl hv);by_cases ek:vk v=k
   .rcases g.eC v hv ek with h1|h1
    .exact⟨j,hj,e,by rw[o7 h.aN hj];exact h1⟩
    exact⟨bP j,j1 hj,by rw[ou];exact e,by rw[Vr h.aN hj];exact h1⟩
   exact⟨j,hj,e,by rw[o7 h.aN hj];exact(g.an v fl ek).2 hv⟩
  exact⟨j,hj,e,by rw[Bg h.aN hi s ej];exact hv⟩
 cont:=λ{σ v} ⟨j,hj,e,hv⟩=>by
  by_cases ej:j=i
  .subst ej;have fl:=jn (h.cT hj) hv;by_cases ek:vk v=k
   .have key:(v∈s.an\/v∈s.waits)\/(v∈(sv w (bP j)).an\/v∈(sv w (bP j)).waits):=by
     rcases hv with hv|hv
     .rcases g.eC v hv ek with h1|h1
      .exact .inl (.inl h1)
      exact .inr (.inl h1)
     exact g.cont v hv ek
    rcases key with h1|h1
    .exact⟨j,hj,e,by rw[o7 h.aN hj];exact h1⟩
    exact⟨bP j,j1 hj,by rw[ou];exact e,by rw[Vr h.aN hj];exact h1⟩
   refine⟨j,hj,e,?_⟩;rw[o7 h.aN hj];rcases hv with hv|hv
   .exact .inl ((g.an v fl ek).2 hv)
   exact .inr ((g.waits v fl ek).2 hv)
  exact⟨j,hj,e,by rw[Bg h.aN hi s ej];exact hv⟩
 ep:=λj hj x hx=>by
  unfold Go.Proofs.YtldbakcpcfdlaaaGreat.ep;rw[xy h.aN hi];split
  .rename_i ej;subst ej;by_cases e:x=k
   .subst e;exact g.ep
   rw[g.aD x hx e];exact Int.le_refl _
  exact Int.le_refl _
 calls:=λq hq=>⟨q,hq,j2.refl q⟩
def vU.ajh {w:ai} (h:Inv w) {i:Nat} (hi:i<4) {s:Server} {k:Nat} (g:vU w i s k) {σ:Nat} {v:aA} (hv:be (eB w i s) σ v):be w σ v:=by
 obtain⟨j,hj,e,hv⟩:=hv;by_cases ej:j=i
 .subst ej;rw[o7 h.aN hj] at hv;have fl:=jn g.aN (.inl hv);by_cases ek:vk v=k
  .rw[<-e];exact g.back v hv ek
  exact⟨j,hj,e,(g.an v fl ek).1 hv⟩
 rw[Bg h.aN hi s ej] at hv;exact⟨j,hj,e,hv⟩
def Bt {w:ai} (h:Inv w) {σ:Nat} {v:aA} (hv:be w σ v) {d:aw} (hd:d∈v.aQ):∃u,u.aU=d/\be w σ u:=by
 obtain⟨i,hi,rfl,hv⟩:=hv;exact h.D1 i hi v hv d hd
def vU.inv {w:ai} (h:Inv w) {i:Nat} (hi:i<4) {s:Server} {k:Nat} (hk:k<3) (g:vU w i s k):Inv (eB w i s):=by
 have hx:=g.ext h hi;have vj:=λ{σ v}=>g.ajh h hi (σ:=σ) (v:=v);have xG:bP i≠i:=Lv i;have j7:=j1 hi;have aW:∀j,j≠i->sv (eB w i s) j=sv w j:=λj hj=>Bg h.aN hi s hj;have fL:sv (eB w i s) i=s:=o7 h.aN hi s;have bj:sv (eB w i s) (bP i)=sv w (bP i):=aW _ xG;have Na:∀x,x<3->x≠k->(behind s (sv w (bP i)) x↔behind (sv w i) (sv w (bP i)) x):=λx vX o8=>by unfold behind;rw[g.aD x vX o8]
 have Nb:∀x,x<3->x≠k->(behind (sv w (bP i)) s x↔behind (sv w (bP i)) (sv w i) x):=λx vX o8=>by unfold behind;rw[g.aD x vX o8]
 have Hk:∀j,j<4->j=i\/j=bP i\/(j≠i/\bP j≠i):=λj hj=>by
  by_cases e:j=i
  .exact .inl e
  by_cases e2:bP j=i
  .exact .inr (.inl (by rw[<-e2,jA]))
  exact .inr (.inr ⟨e,e2⟩)
 refine⟨Vs h.aN hi g.aN g.site,?_,?_,?_,?_,?_,?_,?_,?_,?_,?_,?_,?_,?_,?_,?_,?_,h.kG,h.fresh,?_⟩
 .intro j hj x vX;rcases Hk j hj with rfl|rfl|⟨e1,e2⟩
  .rw[fL,bj];by_cases e:x=k
   .subst e;exact g.fits
   rw[g.aD x vX e];exact h.fits j hj x vX
  .rw[jA,fL,bj];have Wq:∀a b,lB a b=true->lB b a=true:=λa b FF=>by
    unfold lB at*;simp only[Bool.or_eq_true] at*;rcases FF with((h1|h1)|h1)|h1
    .exact .inl (.inl (.inr h1))
    .exact .inl (.inl (.inl h1))
    .exact .inr h1
    exact .inl (.inr h1)
   by_cases e:x=k
   .subst e;exact Wq _ _ g.fits
   rw[g.aD x vX e];exact Wq _ _ (h.fits i hi x vX)
  rw[aW j e1,aW _ e2];exact h.fits j hj x vX
 .intro j hj v hv hb;rcases Hk j hj with rfl|rfl|⟨e1,e2⟩
  .rw[fL] at hv hb;rw[bj] at hb⊢;have fl:=jn g.aN (.inl hv);by_cases e:vk v=k
   .exact g.Bs (e▸hb) v hv e
   exact h.p9 j hj v ((g.an v fl e).1 hv) ((Na _ (sO fl) e).1 hb)
  .rw[jA,fL,bj] at hb;rw[bj] at hv;rw[jA,fL];have fl:=jn (h.cT j7) (.inl hv);by_cases e:vk v=k
   .exact g.ajc (e▸hb) v hv e
   have:=h.p9 _ j7 v hv (by rw[jA];exact(Nb _ (sO fl) e).1 hb);rw[jA] at this;exact(g.an v fl e).2 this
  rw[aW j e1] at hv hb;rw[aW _ e2] at hb⊢;exact h.p9 j hj v hv hb
 .intro j hj v hv hb;rcases Hk j hj with rfl|rfl|⟨e1,e2⟩
  .rw[fL] at hv hb;rw[bj] at hb⊢;have fl:=jn g.aN (.inr hv);by_cases e:vk v=k
   .exact g.ajd (e▸hb) v hv e
   exact h.te j hj v ((g.waits v fl e).1 hv) ((Na _ (sO fl) e).1 hb)
  .rw[jA,fL,bj] at hb;rw[bj] at hv;rw[jA,fL];have fl:=jn (h.cT j7) (.inr hv);by_cases e:vk v=k
   .exact g.aje (e▸hb) v hv e
   have:=h.te _ j7 v hv (by rw[jA];exact(Nb _ (sO fl) e).1 hb);rw[jA] at this;rcases this with this|this
   .exact .inl ((g.an v fl e).2 this)
   exact .inr ((g.waits v fl e).2 this)
  rw[aW j e1] at hv hb;rw[aW _ e2] at hb⊢;exact h.te j hj v hv hb
 .intro j hj v hv d hd;obtain⟨u,e1,e2⟩:=Bt h (vj (be.here hj hv)) hd;exact⟨u,e1,hx.eC e2⟩
 .intro j hj v hv;by_cases e:j=i
  .subst e;rw[fL] at hv;have fl:=jn g.aN (.inr hv);by_cases e:vk v=k
   .exact hx.eC (g.ajb v hv e)
   exact hx.eC (h.lU j hj v ((g.waits v fl e).1 hv))
  rw[aW j e] at hv;exact hx.eC (h.lU j hj v hv)
 .intro j hj d hd;have key:∀d∈(sv w j).ba,∃u,u.aU=d/\be (eB w i s) (j/2) u:=λd hd=>let⟨u,e1,e2⟩:=h.ba j hj d hd;⟨u,e1,hx.eC e2⟩;by_cases e:j=i
  .subst e;rw[fL] at hd;exact key d (g.ba d hd)
  rw[aW j e] at hd;exact key d hd
 .intro j hj d hd;by_cases e:j=i
  .subst e;rw[fL] at hd;by_cases e:(cV d.key).toNat=k
   .exact g.aE d hd e
   exact h.aE j hj d ((g.Hj d e).1 hd)
  rw[aW j e] at hd;exact h.aE j hj d hd
 .intro j hj v hv U hb;rcases Hk j hj with rfl|rfl|⟨e1,e2⟩
  .rw[fL] at hv hb⊢;rw[bj] at hb;have fl:=jn g.aN (.inl hv);by_cases e:vk v=k
   .rcases g.ajf (e▸hb) v hv e U with h1|h1
    .exact .inl h1
    exact .inr (hx.cont h1)
   rcases h.q8 j hj v ((g.an v fl e).1 hv) U (λh1=>hb ((Na _ (sO fl) e).2 h1)) with h1|h1
   .exact .inl ((g.Hj v.aU e).2 h1)
   exact .inr (hx.cont h1)
  .rw[jA,fL,bj] at hb;rw[bj] at hv⊢;rw[ou] at U⊢;have fl:=jn (h.cT j7) (.inl hv);by_cases e:vk v=k
   .rcases g.ajg (e▸hb) v hv e U with h1|h1
    .exact .inl h1
    exact .inr (hx.cont h1)
   rcases h.q8 _ j7 v hv (by rw[ou];exact U) (λh1=>hb ((Nb _ (sO fl) e).2 (by rwa[jA] at h1))) with h1|h1
   .exact .inl h1
   rw[ou] at h1;exact .inr (hx.cont h1)
  rw[aW j e1] at hv hb⊢;rw[aW _ e2] at hb;rcases h.q8 j hj v hv U hb with h1|h1
  .exact .inl h1
  exact .inr (hx.cont h1)
 .intro σ v hv;have:=h.home σ v (vj hv);exact⟨this.1,hx.eC this.2⟩
 .exactλσ τ u v hu hv hd=>h.uniq _ _ u v (vj hu) (vj hv) hd
 .exactλσ τ u v hu hv hd=>h.once _ _ u v (vj hu) (vj hv) hd
 .exactλσ v hv=>h.made _ v (vj hv)
 .intro q hq h1 h2;obtain⟨v,a,b⟩:=h.done q hq h1 h2;exact⟨v,hx.eC a,b⟩
 .exactλq hq=>(h.ctx q hq).ext hx
 .exactλk hk=>(h.seen k hk).ext hx
 .exactλq hq=>(h.au q hq).ext hx
 intro m hm;refine(h.words m hm).ext hx (h.aN.words m hm) λe9 hl hf=>?_;have ka:=qJ (h.aN.words m hm);by_cases e:m.aT.toNat=i
 .rw[e] at hf⊢;rw[fL];obtain⟨f1,f2,f3,f4⟩:=hf;by_cases e2:m.slot.toNat=k
  .rw[e2] at f1⊢;left;unfold Go.Proofs.YtldbakcpcfdlaaaGreat.ep;rw[bj];have:=g.hold (by rw[f1]);rw[f1] at this;exact this
  right;have gN:∀{key:Int},cV key=m.slot->(cV key).toNat≠k:=λek=>by rw[ek];exact e2
  refine⟨by rw[g.aD _ om e2];exact f1,λv=>?_,λv=>?_,λd=>?_⟩
  .rw[f2 v];constructor
   .rintro⟨a,b⟩;exact⟨(g.an v (jn (h.cT hi) (.inl a)) (gN b)).2 a,b⟩
   rintro⟨a,b⟩;exact⟨(g.an v (jn g.aN (.inl a)) (gN b)).1 a,b⟩
  .rw[f3 v];constructor
   .rintro⟨a,b⟩;exact⟨(g.waits v (jn (h.cT hi) (.inr a)) (gN b)).2 a,b⟩
   rintro⟨a,b⟩;exact⟨(g.waits v (jn g.aN (.inr a)) (gN b)).1 a,b⟩
  rw[f4 d];constructor
  .rintro⟨a,b⟩;exact⟨(g.Hj d (gN b)).2 a,b⟩
  rintro⟨a,b⟩;exact⟨(g.Hj d (gN b)).1 a,b⟩
 right;rw[aW _ e];exact hf
def Ext.trans {w x y:ai} (h:Ext w x) (h':Ext x y):Ext w y:=
 ⟨λhv=>h'.eC (h.eC hv),λhv=>h'.cont (h.cont hv),λi hi k hk=>Int.le_trans (h.ep i hi k hk) (h'.ep i hi k hk),λq hq=>by
  obtain⟨p,hp,s⟩:=h.calls q hq;obtain⟨r,hr,s'⟩:=h'.calls p hp;exact⟨r,hr,s.trans s'⟩⟩
def aji {w:ai} (h:Inv w) {i:Nat} (hi:i<4) {d:aw} (hd:eG (sv w i) d=true):∃u,u.aU=d/\be w (i/2) u:=by
 unfold eG at hd;rw[Bool.or_eq_true,decide_eq_true_eq,decide_eq_true_eq] at hd;rcases hd with hd|hd
 .obtain⟨x,hx,e⟩:=nC.1 hd;exact⟨x,e,be.here hi hx⟩
 exact h.ba i hi d (oY.1 hd)
def ajj {w:ai} (h:Inv w) {i:Nat} (hi:i<4) (hp:0<=dI (sv w i)):pf w i (mT (sv w i) (dI (sv w i)).toNat) none:=by
 obtain⟨hl,_,l6⟩:=wW hp;have hu:=bh hl;have bj:=ad3 l6;refine⟨(h.cT hi).yv hp,rfl,rfl,λv hv=>hC.2 (.inr hv),λv hv=>?_,λv hv=>?_,λv hv=>.inl (yx hv),λv hv U=>?_,λd hd=>.inl hd,λd hd=>.inl hd,λd hd=>.inl hd,λv e=>by cases e⟩
 .rcases KK (dI (sv w i)).toNat hv with rfl|h1
  .exact .inl (hC.2 (.inl rfl))
  exact .inr h1
 .rcases hC.1 hv with rfl|h1
  .right;refine⟨bj,λd hd=>?_,.inl (h.lU i hi _ hu)⟩;unfold iC yo at l6;rw[Bool.and_eq_true,tY (p:=λd=>eG (sv w i) d)] at l6;exact aji h hi (l6.2 d hd)
  exact .inl h1
 rcases KK (dI (sv w i)).toNat hv with rfl|h1
 .exact absurd bj U
 exact h1
def Wr {i:Nat} (hi:i<4):∀(n:Nat) {w:ai},Inv w->Inv (eB w i (jl n (sv w i)))/\Ext w (eB w i (jl n (sv w i)))
 |0,w,h=>by
  have e:eB w i (jl 0 (sv w i))=w:=Me (by rw[h.aN.aC];exact hi);rw[e];exact⟨h,Ext.refl w⟩
 |n+1,w,h=>by
  unfold jl;split
  .rw[Me (by rw[h.aN.aC];exact hi)];exact⟨h,Ext.refl w⟩
  rename_i hp;have g:=ajj h hi om;have h1:=g.inv h hi;obtain⟨a,b⟩:=Wr hi n h1;rw[o7 h.aN hi,Lw] at a b;exact⟨a,(g.ext h hi).trans b⟩
def Ws {w:ai} (h:Inv w) {i:Nat} (hi:i<4):Inv (eB w i (ef (sv w i)))/\Ext w (eB w i (ef (sv w i))):=by
 obtain⟨a,b⟩:=Wr hi (sv w i).waits.length h;have e:sv (eB w i (jl (sv w i).waits.length (sv w i))) i=ir (sv w i):=o7 h.aN hi _;have g:pf (eB w i (jl (sv w i).waits.length (sv w i))) i (ef (sv w i)) none:=by
  refine⟨(h.cT hi).settle,by rw[e];rfl,by rw[e];rfl,λv hv=>by rw[e] at hv;exact hv,λv hv=>by rw[e] at hv;exact .inr hv,λv hv=>by rw[e];exact .inl hv,λv hv=>by rw[e];exact .inl hv,λv hv _=>by rw[e] at hv;exact hv,λd hd=>by rw[e];exact .inl (su hd),λd hd=>by rw[e];exact .inl hd,λd hd=>by rw[e] at hd;exact .inl hd,λv e=>by cases e⟩
 have h1:=g.inv a hi;have h2:=g.ext a hi;rw[Lw] at h1 h2;exact⟨h1,b.trans h2⟩
def ajk {w:ai} (hg:bX w) {i:Nat} (hi:i<4) {s:Server} (h:Inv (eB w i s)):Inv (eB w i (ef s))/\Ext (eB w i s) (eB w i (ef s)):=by
 have:=Ws h hi;rwa[o7 hg hi,Lw] at this
def ajl {w:ai} (h:Inv w) {i:Nat} (hi:i<4) {m:az} (hm:bK m=true) (ha:ep w i m.slot.toNat<m.bw) (hf:yG (sv w (bP i)) m) (hg:bJ (jB (sv w i) m)):
 vU w i (jB (sv w i) m) m.slot.toNat:=by
 have ka:=qJ hm;have uF:=nH hm;obtain⟨f1,f2,f3,f4⟩:=hf;have kY:m.slot.toNat<3:=by omega
 have j7:=j1 hi;have hlen:(sv w i).aD.length=3:=(h.cT hi).aD;have xH:∀j,ab (jB (sv w i) m).aD j=if j=m.slot.toNat then⟨m.bw,1⟩ else ab (sv w i).aD j:=λj=>fC (by rw[show(eh (sv w i) m.slot).aD=(sv w i).aD from rfl,hlen];exact kY)
 have lO:ab (jB (sv w i) m).aD m.slot.toNat=⟨m.bw,1⟩:=by rw[xH,if_pos rfl]
 have hv:∀v,v∈(jB (sv w i) m).an↔(v∈(sv w i).an/\cV v.key≠m.slot)\/v∈m.an:=λv=>
  (GL (s:=sv w i) hm (l:=(eh (sv w i) m.slot).an) (vs:=m.an) (λv hv=>(Dk.1 hv).2) (λv hv=>((f2 v).1 hv).2) uF.1 v).trans (or_congr Dk Iff.rfl)
 have tf:∀v,v∈(jB (sv w i) m).waits↔(v∈(sv w i).waits/\cV v.key≠m.slot)\/v∈m.waits:=λv=>
  (GL (s:=sv w i) hm (l:=(eh (sv w i) m.slot).waits) (vs:=m.waits) (λv hv=>(Dl.1 hv).2) (λv hv=>((f3 v).1 hv).2) uF.2.1 v).trans (or_congr Dl Iff.rfl)
 have ho:∀d,d∈(jB (sv w i) m).aE↔(d∈(sv w i).aE/\cV d.key≠m.slot)\/d∈m.aE:=λd=>L1.trans (or_congr K2 Iff.rfl);have vY:behind (sv w i) (sv w (bP i)) m.slot.toNat:=by
  left;rw[f1];exact ha
 have ta:behind (sv w (bP i)) (jB (sv w i) m) m.slot.toNat:=by
  right;rw[f1,lO];exact⟨rfl,rfl⟩
 have D3:¬behind (jB (sv w i) m) (sv w (bP i)) m.slot.toNat:=by
  unfold behind;rw[f1,lO];simp
 have Nc:¬behind (sv w (bP i)) (sv w i) m.slot.toNat:=by
  have hx:=h.fits i hi _ kY;exact Mg hx vY
 have nR:∀{v:aA},dN v=true->(vk v=m.slot.toNat↔cV v.key=m.slot):=λhv=>UZ hv ka.1;have DX:∀v∈m.an,v∈(sv w (bP i)).an/\cV v.key=m.slot:=λv hv=>(f2 v).1 hv;have M4:∀v∈m.waits,v∈(sv w (bP i)).waits/\cV v.key=m.slot:=λv hv=>(f3 v).1 hv;have dk:∀{d:aw},(cV d.key).toNat≠m.slot.toNat->cV d.key≠m.slot:=λe e2=>e (by rw[e2]);refine⟨hg,rfl,λj hj aW=>by rw[xH,if_neg aW],λv fl aW=>?_,λv fl aW=>?_,λd aW=>?_,λd hd=>hd,?_,?_,λv dU e=>?_,λv dU e=>?_,λv dU e=>.inl ((hv v).2 (.inr ((f2 v).2 ⟨?_,?_⟩))),λv dU e=>.inl ?_,λhb=>absurd hb D3,λ_ v dU e=>(hv v).2 (.inr ((f2 v).2 ⟨dU,?_⟩)),λhb=>absurd hb D3,λ_ v dU e=>.inr ((tf v).2 (.inr ((f3 v).2 ⟨dU,?_⟩))),λd hd e=>?_,λ_ v dU e U=>?_,λhb=>absurd ta hb,λbj=>?_⟩
 .rw[hv];constructor
  .rintro(⟨a,_⟩|a)
   .exact a
   exact absurd ((nR fl).2 (DX v a).2) aW
  exactλa=>.inl ⟨a,λe=>aW ((nR fl).2 e)⟩
 .rw[tf];constructor
  .rintro(⟨a,_⟩|a)
   .exact a
   exact absurd ((nR fl).2 (M4 v a).2) aW
  exactλa=>.inl ⟨a,λe=>aW ((nR fl).2 e)⟩
 .rw[ho];constructor
  .rintro(⟨a,_⟩|a)
   .exact a
   exact absurd ((f4 d).1 a).2 (dk aW)
  exactλa=>.inl ⟨a,dk aW⟩
 .rw[lO,f1];simp[lB,ui]
 .rw[lO];exact Int.le_of_lt ha
 .have fl:=jn hg (.inl dU);rcases(hv v).1 dU with⟨_,a⟩|a
  .exact absurd ((nR fl).1 e) a
  have:=be.here j7 (DX v a).1;rwa[ou] at this
 .have fl:=jn hg (.inr dU);rcases(tf v).1 dU with⟨_,a⟩|a
  .exact absurd ((nR fl).1 e) a
  have:=h.lU _ j7 v (M4 v a).1;rwa[ou] at this
 .exact h.p9 i hi v dU (e▸vY)
 .exact(nR (jn (h.cT hi) (.inl dU))).1 e
 .have fl:=jn (h.cT hi) (.inr dU);have e':=(nR fl).1 e;rcases h.te i hi v dU (e▸vY) with a|a
  .exact .inl ((hv v).2 (.inr ((f2 v).2 ⟨a,e'⟩)))
  exact .inr ((tf v).2 (.inr ((f3 v).2 ⟨a,e'⟩)))
 .exact(nR (jn (h.cT j7) (.inl dU))).1 e
 .exact(nR (jn (h.cT j7) (.inr dU))).1 e
 .rcases(ho d).1 hd with⟨a,_⟩|a
  .exact h.aE i hi d a
  have:=h.aE _ j7 d ((f4 d).1 a).1;rwa[ou] at this
 .have fl:=jn hg (.inl dU);rcases(hv v).1 dU with⟨_,a⟩|a
  .exact absurd ((nR fl).1 e) a
  rcases h.q8 _ j7 v (DX v a).1 (by rw[ou];exact U) (by rw[jA,e];exact Nc) with b|b
  .exact .inl ((ho _).2 (.inr ((f4 _).2 ⟨b,(DX v a).2⟩)))
  rw[ou] at b;exact .inr b
 rw[f1];exact Int.le_of_lt ha
def ajm {w:ai} (h:Inv w) {i:Nat} (hi:i<4) {m:az} (hm:bK m=true) (h2:(ab (sv w i).aD m.slot.toNat).cm=2) (he:(ab (sv w i).aD m.slot.toNat).bw=m.bw) (ht:m.bw<=ep w (bP i) m.slot.toNat):
 vU w i (lr (sv w i) m) m.slot.toNat:=by
 have ka:=qJ hm;have kY:m.slot.toNat<3:=by omega
 have j7:=j1 hi;have hlen:(sv w i).aD.length=3:=(h.cT hi).aD;have xH:∀j,ab (lr (sv w i) m).aD j=if j=m.slot.toNat then⟨m.bw,0⟩ else ab (sv w i).aD j:=λj=>fC (by rw[show(eh (sv w i) m.slot).aD=(sv w i).aD from rfl,hlen];exact kY)
 have lO:ab (lr (sv w i) m).aD m.slot.toNat=⟨m.bw,0⟩:=by rw[xH,if_pos rfl]
 have hg:bJ (lr (sv w i) m):=Ui (h.cT hi) hm;have nR:∀{v:aA},dN v=true->(vk v=m.slot.toNat↔cV v.key=m.slot):=λhv=>UZ hv ka.1;have hv:∀v,v∈(lr (sv w i) m).an↔v∈(sv w i).an/\cV v.key≠m.slot:=λv=>Dk;have tf:∀v,v∈(lr (sv w i) m).waits↔v∈(sv w i).waits/\cV v.key≠m.slot:=λv=>Dl;have ho:∀d,d∈(lr (sv w i) m).aE↔d∈(sv w i).aE/\cV d.key≠m.slot:=λd=>K2;have jf:=h.fits i hi _ kY;have Bm:(ab (sv w i).aD m.slot.toNat).bw<=(ab (sv w (bP i)).aD m.slot.toNat).bw:=by rw[he];exact ht
 have vY:behind (sv w i) (sv w (bP i)) m.slot.toNat:=by
  rcases afV jf with hb|hb
  .exact hb
  unfold behind at hb;omega
 have Nc:¬behind (sv w (bP i)) (sv w i) m.slot.toNat:=Mg jf vY;have ta:¬behind (sv w (bP i)) (lr (sv w i) m) m.slot.toNat:=by
  unfold behind;rw[lO];show¬((ab (sv w (bP i)).aD m.slot.toNat).bw<m.bw\/(_/\(0:Int)=1));omega
 have Nd:∀v∈(lr (sv w i) m).an,vk v≠m.slot.toNat:=λv dU e=>((hv v).1 dU).2 ((nR (jn hg (.inl dU))).1 e);have Wt:∀v∈(lr (sv w i) m).waits,vk v≠m.slot.toNat:=λv dU e=>((tf v).1 dU).2 ((nR (jn hg (.inr dU))).1 e);have dk:∀{d:aw},(cV d.key).toNat≠m.slot.toNat->cV d.key≠m.slot:=λe e2=>e (by rw[e2]);refine⟨hg,rfl,λj hj aW=>by rw[xH,if_neg aW],λv fl aW=>(hv v).trans ⟨λa=>a.1,λa=>⟨a,λe=>aW ((nR fl).2 e)⟩⟩,λv fl aW=>(tf v).trans ⟨λa=>a.1,λa=>⟨a,λe=>aW ((nR fl).2 e)⟩⟩,λd aW=>(ho d).trans ⟨λa=>a.1,λa=>⟨a,dk aW⟩⟩,λd hd=>hd,?_,?_,
  λv dU e=>absurd e (Nd v dU),λv dU e=>absurd e (Wt v dU),λv dU e=>.inr (h.p9 i hi v dU (e▸vY)),λv dU e=>.inr (h.te i hi v dU (e▸vY)),λ_ v dU e=>absurd e (Nd v dU),λhb=>absurd hb ta,λ_ v dU e=>absurd e (Wt v dU),λhb=>absurd hb ta,λd hd e=>h.aE i hi d ((ho d).1 hd).1,λ_ v dU e=>absurd e (Nd v dU),λ_ v dU e U=>?_,λ_=>Bm⟩
 .rw[lO];unfold lB ui vB at jf⊢;simp only[Bool.or_eq_true,Bool.and_eq_true,beq_iff_eq,bne_iff_ne,decide_eq_true_eq] at jf⊢;simp;omega
 .rw[lO,he];exact Int.le_refl _
 have:=h.q8 _ j7 v dU (by rw[ou];exact U) (by rw[jA,e];exact Nc);rwa[ou] at this
structure iI (w:ai) (i:Nat) (r:Server×List az):Prop where
 inv:Inv (eB w i r.1)
 ext:Ext w (eB w i r.1)
 words:∀x∈r.2,eL (eB w i r.1) x
def iI.same {w:ai} (h:Inv w) {i:Nat} (hi:i<4) {ws:List az} (hw:∀x∈ws,eL w x):iI w i (sv w i,ws):=by
 have e:eB w i (sv w i)=w:=Me (by rw[h.aN.aC];exact hi);exact⟨by rw[e];exact h,by rw[e];exact Ext.refl w,by rw[e];exact hw⟩
def iI.settle {w:ai} (h:Inv w) {i:Nat} (hi:i<4) {s:Server} (h1:Inv (eB w i s)) (hx:Ext w (eB w i s)) {ws:List az} (hw:∀x∈ws,∀y,Ext (eB w i s) y->eL y x):iI w i (ef s,ws):=by
 obtain⟨a,b⟩:=ajk h.aN hi h1;exact⟨a,hx.trans b,λx hxm=>hw x hxm _ b⟩
def ajo {w:ai} (h:Inv w) {i:Nat} (hi:i<4) {m:az} (hm:bK m=true) (g:eL w m) (hk:m.kind=1) (eO:m.to=(i:Int)) (ml:1<=m.call) (ho:fE (sv w i) m.key=true)
 (hn:kU (sv w i) m.key (m.aT-10) m.call=none) (kS:jM (fB (sv w i) m)=true) (Wu:iO (sv w i).an (eV (sv w i) m)=true) (hl:(sv w i).aE.length<80):
 pf w i {(sv w i) with an:=fJ (sv w i).an (eV (sv w i) m),aE:=eA (sv w i).aE (eV (sv w i) m).aU} (some (eV (sv w i) m))/\(eV (sv w i) m).aj=((i/2:Nat):Int):=by
 obtain⟨q,hq,a1,a2,a3,a4,a5,a6,a7⟩:=g.k1 hk;have U:=h.cT hi;obtain⟨b1,b2,b3⟩:=DP U hm kS;have bj:=(yK ho).2;have jQ:=h.site hi;have Hl:q.aj=((i/2:Nat):Int):=by rw[<-a3,eO];omega
 have Bu:(eV (sv w i) m).aj=((i/2:Nat):Int):=by show m.aT-10=_;omega
 have tx:bM (eV (sv w i) m).ar.site=((i/2:Nat):Int):=by rw[b1,jQ];exact Ga hi
 have D4:q.aj.toNat=i/2:=by omega
 refine⟨⟨U.put Wu (by rw[b1]) (by show cP (sv w i) m.key≠0;omega) hl,rfl,rfl,λv hv=>hC.2 (.inr hv),λv hv=>.inr hv,λv hv=>?_,λv hv=>.inl hv,λv hv _=>hv,λd hd=>.inl hd,λd hd=>?_,λd hd=>.inl (xp.2 (.inr hd)),λv e=>?_⟩,Bu⟩
 .rcases hC.1 hv with rfl|hv
  .right;refine⟨bj,λd hd=>?_,.inr rfl⟩;have bq:=h.ctx q hq;rw[a7,D4] at bq;obtain⟨u,e1,e2,_⟩:=bq d hd;exact⟨u,e2,e1⟩
  exact .inl hv
 .rcases xp.1 hd with rfl|hd
  .exact .inr ⟨_,rfl,rfl⟩
  exact .inl hd
 have e:=Option.some.inj e;subst e;refine⟨hC.2 (.inl rfl),xp.2 (.inl rfl),bj,by rw[tx,Bu],Bu,λσ u hu=>?_,q,hq,by rw[Hl,Bu],a2,a4,a5,a6,a7⟩;have Hm:=h.home σ u hu;constructor
 .intro e;have e1:u.ar=(eV (sv w i) m).ar:=congrArg aw.ar e;have e2:u.key=m.key:=congrArg aw.key e;have huc:u.aj.toNat=i/2:=by rw[<-Hm.1,e1,tx];omega
  have vM:=Hm.2;rw[huc] at vM;have:=h.owner hi vM (by rw[e2];exact bj);exact pN (wY Wu).2.1 u this e
 rintro⟨e1,e2⟩;have wA:u.aj=((i/2:Nat):Int):=e1.trans Bu;have vM:=Hm.2;rw[show u.aj.toNat=i/2 by omega] at vM;obtain⟨p,hp,c1,c2,c3,c4,_⟩:=h.made σ u hu;have zy:p=q:=DW h.aN hp hq (by rw[c1,wA,Hl]) (by rw[c2,e2];exact a2.symm);rw[zy,a5] at c4;have dr:=h.owner hi vM (by rw[<-c4];exact bj);have:=aiH hn dr;have h3:u.aj=m.aT-10:=e1;have h4:u.call=m.call:=e2;have h5:bM u.ar.site=bM (sv w i).site:=by rw[Hm.1,wA,jQ,Ga hi]
 unfold pS at this;rw[h3,h4,h5,<-c4] at this;simp at this
def ajq {w:ai} (h:Inv w) {i:Nat} (hi:i<4) {m:az} (hm:bK m=true) (g:eL w m) (hk:m.kind=1) (eO:m.to=(i:Int)):iI w i (gC (sv w i) m):=by
 obtain⟨q,hq,a1,a2,a3,a4,a5,a6,a7⟩:=g.k1 hk;have Hl:q.aj=((i/2:Nat):Int):=by rw[<-a3,eO];omega
 have Wv:(m.aT-10).toNat=i/2:=by omega
 unfold gC;split
 .rename_i hc;simp only[Bool.and_eq_true,decide_eq_true_eq] at hc;split
  .rename_i v hv;obtain⟨c1,c2,c3,c4,c5⟩:=KV hv;refine iI.same h hi λx hx=>?_;obtain rfl:x=_:=by simpa using hx
   refine V0 rfl ⟨v,?_,c3,c4,c2,rfl⟩;show be w (m.aT-10).toNat v;rw[Wv];exact be.here hi c1
  rename_i hn;split
  .rename_i eR;simp only[Bool.and_eq_true,decide_eq_true_eq] at eR;obtain⟨gr,Bu⟩:=ajo h hi hm g hk eO hc.1.2 hc.2 hn eR.1.1 eR.1.2 eR.2;refine iI.settle h hi (gr.inv h hi) (gr.ext h hi) λx hx y hy=>?_;obtain rfl:x=_:=by simpa using hx
   refine V0 rfl ⟨eV (sv w i) m,hy.eC ?_,rfl,rfl,rfl,rfl⟩;show be _ (m.aT-10).toNat _;rw[Wv];exact⟨i,hi,rfl,by rw[o7 h.aN hi];exact hC.2 (.inl rfl)⟩
  exact iI.same h hi λx hx=>by simp at hx
 exact iI.same h hi λx hx=>by simp at hx
def ajr {w:ai} (h:Inv w) {i:Nat} (hi:i<4) {m:az} (hm:bK m=true) (g:eL w m) (hk:m.kind=3) (eO:m.to=(i:Int)):∀x∈gR (sv w i) m,eL w x:=by
 obtain⟨q,hq,a1,a2,a3⟩:=g.k3 hk;have Hl:q.aj=((i/2:Nat):Int):=by rw[<-a3,eO];omega
 have D4:q.aj.toNat=i/2:=by omega
 have bq:=h.ctx q hq;rw[D4] at bq;have U:=h.cT hi;unfold gR;split
 .rename_i hc;simp only[Bool.and_eq_true,decide_eq_true_eq] at hc;have bj:=(yK hc.2).2;have eH:∀d∈q.ctx,d.key=m.key->∃u∈(sv w i).an,u.aU=d:=λd hd e=>by
   obtain⟨u,e1,e2,_⟩:=bq d hd;exact⟨u,h.owner hi e1 (by rw[show u.key=d.key from congrArg aw.key e2,e];exact bj),e2⟩
  split
  .rename_i hn;intro x hx;obtain rfl:x=_:=by simpa using hx
   refine V1 rfl ⟨q,hq,a1,a2,λhy=>?_,λhy=>⟨hn,?_⟩⟩
   .obtain⟨v,hv⟩:=Option.isSome_iff_exists.1 hy;have jD:=uj hv;refine⟨v,by show(dY (sv w i).an m.key).toList=[v];rw[hv];rfl,jD.2,by rw[D4];exact be.here hi jD.1,λ_=>?_,λe=>absurd (hn.symm.trans e) aP⟩;rcases CZ (l:=q.ctx) (key:=m.key) with e|e
    .show bQ v.ar (bI q.ctx m.key)=false;rw[e];exact Sl (fw U.an v jD.1)
    obtain⟨u,hu,e2⟩:=eH _ e rfl;have h1:=GM (pU U.an) hv hu (congrArg aw.key e2);have e3:u.ar=bI q.ctx m.key:=congrArg aw.ar e2;show bQ v.ar (bI q.ctx m.key)=false;rw[<-e3];exact h1
   have kS:dY (sv w i).an m.key=none:=by
    cases ht:dY (sv w i).an m.key with
    |none=>rfl
    |some v=>have:(dY (sv w i).an m.key).isSome=false:=hy;rw[ht] at this;cases this
   rcases CZ (l:=q.ctx) (key:=m.key) with e|e
   .exact e
   obtain⟨u,hu,e2⟩:=eH _ e rfl;exact absurd (congrArg aw.key e2) (Lx kS hu)
  rename_i hn;split
  .rename_i v hv;intro x hx;obtain rfl:x=_:=by simpa using hx
   have jD:=AJ hv;refine V1 rfl ⟨q,hq,a1,a2,λ_=>⟨v,rfl,congrArg aw.key jD.2,by rw[D4];exact be.here hi jD.1,λe=>absurd e hn,λ_=>congrArg aw.ar jD.2⟩,λe=>by cases e⟩
  intro x hx;simp at hx
 intro x hx;simp at hx
def ajs {w:ai} (h:Inv w) {i:Nat} (hi:i<4) {m:az} (hm:bK m=true) (g:eL w m) (hk:m.kind=5):iI w i (gu (sv w i) m):=by
 have jQ:=h.site hi;unfold gu;split
 .rename_i hr;obtain⟨r1,r2,r3,r4,r5⟩:=Dt hr;obtain⟨v,e1,e2,e3⟩:=g.k5 hk;have ev:ab m.an 0=v:=by rw[e1];rfl
  obtain⟨n1,n2,n3,n4⟩:=AL r1;have D5:(m.aT/2).toNat=1-i/2:=by
   rw[n2,jQ,Ga hi] at r2;omega
  rw[D5] at e2;dsimp only;rw[ev] at r4 r5⊢;have bj:=(yK r4).2;have ajt:∀y,mY y (i/2) v->eL y (mF (sv w i) m v):=λy hc=>V2 rfl ⟨v,rfl,by
   show mY y ((sv w i).site/2).toNat v;rw[jQ,show((i:Int)/2).toNat=i/2 by omega];exact hc⟩
  split
  .rename_i hn;split
   .rename_i hc;have gr:pf w i {(sv w i) with waits:=fJ (sv w i).waits v} none:=by
     refine⟨(h.cT hi).wait hc hn.1 r5 om,rfl,rfl,λu hu=>hu,λu hu=>.inr (hC.2 (.inr hu)),λu hu=>.inl hu,λu hu=>?_,λu hu _=>hC.2 (.inr hu),λd hd=>.inl hd,λd hd=>.inl hd,λd hd=>.inl hd,λu e=>by cases e⟩;rcases hC.1 hu with rfl|hu
     .exact .inr ⟨bj,e2⟩
     exact .inl hu
    refine iI.settle h hi (gr.inv h hi) (gr.ext h hi) λx hx y hy=>?_;obtain rfl:x=_:=by simpa using hx
    exact ajt y (hy.cont ⟨i,hi,rfl,.inr (by rw[o7 h.aN hi];exact hC.2 (.inl rfl))⟩)
   exact iI.same h hi λx hx=>by simp at hx
  rename_i hn;obtain⟨a,b⟩:=Ws h hi;refine⟨a,b,λx hx=>?_⟩;obtain rfl:x=_:=by simpa using hx
  have hp:0<=placeOf (sv w i).an v.aU\/0<=placeOf (sv w i).waits v.aU:=by omega
  have Ww:∃u:aA,u.aU=v.aU/\mY w (i/2) u:=by
   rcases hp with hp|hp
   .obtain⟨u,hu,e⟩:=nC.1 hp;exact⟨u,e,i,hi,rfl,.inl hu⟩
   obtain⟨u,hu,e⟩:=nC.1 hp;exact⟨u,e,i,hi,rfl,.inr hu⟩
  obtain⟨u,e4,e5⟩:=Ww;refine V2 rfl ⟨u,e4,b.cont ?_⟩;show mY w ((sv w i).site/2).toNat u;rw[jQ,show((i:Int)/2).toNat=i/2 by omega];exact e5
 exact iI.same h hi λx hx=>by simp at hx
def aju {w:ai} (h:Inv w) {i:Nat} (hi:i<4) {m:az} (hm:bK m=true) (g:eL w m) (hk:m.kind=6):iI w i (jw (sv w i) m,[]):=by
 have jQ:=h.site hi;have q7:bJ (jw (sv w i) m):=Uw (h.cT hi);unfold jw at q7⊢;split
 .rename_i hc;rw[if_pos hc] at q7;simp only[Bool.and_eq_true,decide_eq_true_eq,bne_iff_ne,beq_iff_eq] at hc;obtain⟨⟨⟨r1,r2⟩,r3⟩,r4⟩:=hc;obtain⟨v',e1,e2⟩:=g.k6 hk;obtain⟨n1,n2,n3,n4⟩:=AL r1;have D5:(m.aT/2).toNat=1-i/2:=by
   rw[n2,jQ,Ga hi] at r2;omega
  rw[D5] at e2;have FE:ab (sv w i).aE (fy (sv w i).aE ⟨m.key,m.ar⟩).toNat=⟨m.key,m.ar⟩:=ads r3;have gr:pf w i {(sv w i) with aE:=(sv w i).aE.take (fy (sv w i).aE ⟨m.key,m.ar⟩).toNat++(sv w i).aE.drop ((fy (sv w i).aE ⟨m.key,m.ar⟩).toNat+1)} none:=by
   refine⟨q7,rfl,rfl,λu hu=>hu,λu hu=>.inr hu,λu hu=>.inl hu,λu hu=>.inl hu,λu hu _=>hu,λd hd=>.inl hd,λd hd=>.inl (yx hd),λd hd=>?_,λu e=>by cases e⟩;rcases KK (fy (sv w i).aE ⟨m.key,m.ar⟩).toNat hd with e|hd
   .right;rw[FE] at e;subst e;refine⟨r4,λu hu e=>?_⟩;obtain⟨τ,dU⟩:=e2.eC h;have:=h.uniq _ _ u v' (be.here hi hu) dU (e.trans e1.symm);rw[this];exact e2
   exact .inl hd
  exact⟨gr.inv h hi,gr.ext h hi,λx hx=>by simp at hx⟩
 exact iI.same h hi λx hx=>by simp at hx
def ajv {w:ai} (h:Inv w) {i:Nat} (hi:i<4) (m:az):∀x∈lz (sv w i) m,eL w x:=by
 have jQ:=h.site hi;unfold lz;split
 .rename_i hc;rw[Bool.and_eq_true] at hc;intro x hx;obtain rfl:x=_:=by simpa using hx
  obtain⟨v,hv⟩:=Option.isSome_iff_exists.1 hc.1;have jD:=AJ hv;refine ahZ rfl ⟨v,jD.2,?_⟩;show be w ((sv w i).site/2).toNat v;rw[jQ,show((i:Int)/2).toNat=i/2 by omega];exact be.here hi jD.1
 intro x hx;simp at hx
def Bv {w:ai} (h:Inv w) {i:Nat} (hi:i<4) {m:az} (hf:m.aT=fA (sv w i).site):m.aT.toNat=bP i/\(m.aT/2).toNat=i/2:=by
 rw[h.site hi,za] at hf;have:=ou i;omega
def ajw {w:ai} (h:Inv w) {i:Nat} (hi:i<4) {m:az} (hm:bK m=true) (g:eL w m) (hk:m.kind=8) (hu:(sv w i).up=true):iI w i (ib (sv w i) m,[]):=by
 unfold ib;split
 .rename_i hc;simp only[Bool.and_eq_true,decide_eq_true_eq,beq_iff_eq] at hc;obtain⟨v,hv,hd⟩:=Du.1 hc.1.2;obtain⟨u,e1,e2⟩:=g.k8 hk;rw[(Bv h hi hc.1.1).2] at e2;have gr:pf w i {(sv w i) with ba:=eA (sv w i).ba ⟨m.key,m.ar⟩} none:=by
   refine⟨(h.cT hi).Vk (Dg (iW (fw (h.cT hi).waits v hv)).2.2 _ hd) hc.2 hu,rfl,rfl,λu hu=>hu,λu hu=>.inr hu,λu hu=>.inl hu,λu hu=>.inl hu,λu hu _=>hu,λd hd=>?_,λd hd=>.inl hd,λd hd=>.inl hd,λu e=>by cases e⟩;rcases xp.1 hd with rfl|hd
   .exact .inr ⟨u,e1,e2⟩
   exact .inl hd
  exact iI.settle h hi (gr.inv h hi) (gr.ext h hi) λx hx=>by simp at hx
 exact iI.same h hi λx hx=>by simp at hx
def Wx {w y:ai} (h:Inv w) {i:Nat} (hi:i<4) {m:az} (he:m.bw<=ep y i m.slot.toNat):eL y (nG (sv w i) m):=by
 have jQ:=h.site hi;refine ah1 rfl ?_;show(sv w i).site.toNat<4/\m.bw<=ep y (sv w i).site.toNat m.slot.toNat;rw[jQ,Int.toNat_natCast];exact⟨hi,he⟩
def ajx {w:ai} (h:Inv w) {i:Nat} (hi:i<4) {m:az} (hm:bK m=true) (g:eL w m) (hk:m.kind=9):iI w i (gq (sv w i) m):=by
 have ka:=qJ hm;unfold gq;split
 .rename_i hc;simp only[Bool.and_eq_true,decide_eq_true_eq,beq_iff_eq] at hc;obtain⟨f1,f2⟩:=Bv h hi hc.1;split
  .rename_i he;refine iI.same h hi λx hx=>?_;obtain rfl:x=_:=by simpa using hx
   exact Wx h hi he
  rename_i he;split
  .rename_i eR;rw[Bool.and_eq_true] at eR;obtain⟨_,k9⟩:=g.k9 hk;rw[f1,jA] at k9;have Hn:=k9.resolve_left he;have tr:=ajl h hi hm (by unfold ep;omega) Hn (jX.1 eR.2);refine iI.settle h hi (tr.inv h hi om) (tr.ext h hi) λx hx y hy=>?_;obtain rfl:x=_:=by simpa using hx
   refine Wx h hi (Int.le_trans ?_ (hy.ep i hi _ om));unfold ep;rw[o7 h.aN hi];have e:ab (jB (sv w i) m).aD m.slot.toNat=⟨m.bw,1⟩:=by
    show ab ((sv w i).aD.set m.slot.toNat ⟨m.bw,1⟩) m.slot.toNat=_;rw[fC (by rw[(h.cT hi).aD];omega),if_pos rfl]
   rw[e];exact Int.le_refl _
  exact iI.same h hi λx hx=>by simp at hx
 exact iI.same h hi λx hx=>by simp at hx
def ajy {w:ai} (h:Inv w) {i:Nat} (hi:i<4) {m:az} (hm:bK m=true) (g:eL w m) (hk:m.kind=10):iI w i (jL (sv w i) m,[]):=by
 have ka:=qJ hm;unfold jL;split
 .rename_i hc;simp only[Bool.and_eq_true,decide_eq_true_eq,beq_iff_eq] at hc;obtain⟨f1,f2⟩:=Bv h hi hc.1.1;have ow:=(g.ow hk).2;rw[f1] at ow;have tr:=ajm h hi hm hc.1.2 hc.2 ow;exact iI.settle h hi (tr.inv h hi om) (tr.ext h hi) λx hx=>by simp at hx
 exact iI.same h hi λx hx=>by simp at hx
def Wy {w:ai} (h:Inv w) {i:Nat} (hi:i<4) {m:az} (hm:m.to=(i:Int)) (g:eL w m):iI w i (cN (sv w i) m):=by
 unfold cN;split
 .rename_i hc;simp only[Bool.and_eq_true] at hc;obtain⟨⟨hu,hw⟩,_⟩:=hc;unfold dh;split
  .exact ajq h hi hw g ‹_› hm
  split
  .exact iI.same h hi (ajr h hi hw g ‹_› hm)
  split
  .exact ajs h hi hw g ‹_›
  split
  .exact aju h hi hw g ‹_›
  split
  .exact iI.same h hi (ajv h hi m)
  split
  .exact ajw h hi hw g ‹_› hu
  split
  .exact ajx h hi hw g ‹_›
  split
  .exact ajy h hi hw g ‹_›
  exact iI.same h hi λx hx=>by simp at hx
 exact iI.same h hi λx hx=>by simp at hx
def Wz {w:ai} (h:Inv w) {σ:Nat} {v:aA} (hv:be w σ v):nK w σ v.aQ:=by
 obtain⟨q,hq,c1,_,_,_,_,c6⟩:=h.made σ v hv;have hc:=h.ctx q hq;rw[c6] at hc;intro d hd;obtain⟨u,h1,h2,h3⟩:=hc d hd;obtain⟨x,e,hx⟩:=Bt h hv hd;have:=h.uniq _ _ x u hx h1 (e.trans h2.symm);exact⟨x,hx,e,by rw[this];exact h3⟩
def Nf {w:ai} (h:Inv w) {σ:Nat}:∀{l:List Answer} {D:List aw},nK w σ D->bT D=true->(∀a∈l,dL a=true)->(∀a∈l,a.yes=true->be w σ a.aY)->nK w σ (l.foldl oc D)
 |[],_,hc,_,_,_=>hc
 |a::r,D,hc,hD,hg,hv=>by
  have qx:∀x∈r,dL x=true:=λx hx=>hg x (by simp[hx]);have WA:∀x∈r,x.yes=true->be w σ x.aY:=λx hx=>hv x (by simp[hx]);have ha:=hg a bn;rw[List.foldl_cons];cases hy:a.yes
  .have e:oc D a=D:=by unfold oc;rw[hy];simp
   rw[e];exact Nf h hc hD qx WA
  have e:oc D a=gI (iX D a.aY.aQ) a.aY.aU:=by unfold oc;rw[hy];simp
  have Ho:=hv a bn hy;have wC:=sG ha;have hj:bT (iX D a.aY.aQ)=true:=zb hD λd hd=>qN wC hd;have bj:=(iW (qO ha hy).1).2.1;rw[e];exact Nf h (U4 (agR hc (Wz h Ho) hD wC) hj Ho bj (Vx hD wC)) (Bd hj (AO ha hy).1) qx WA
def ajz {w:ai} (h:Inv w) {q:Call} (hg:∀a∈q.au,dL a=true) (hv:∀a∈q.au,a.yes=true->be w q.aj.toNat a.aY):
 ∃C:Int->cE,(∀a∈q.au,∀key,bQ (C key) (bI a.aY.aQ key)=false)/\(∀a∈q.au,bQ a.aY.ar (C a.key)=false\/(⟨a.key,C a.key⟩:aw)∈ky q)/\
  ∀d∈ky q,d.ar=C d.key/\∃u,be w q.aj.toNat u/\u.aU=d/\∀key,bQ (C key) (bI u.aQ key)=false:=by
 refine⟨λkey=>kx q.au key,λa ha key=>U5 ha key,λa ha=>?_,λd hd=>?_⟩
 .cases hl:bQ a.aY.ar (kx q.au a.key)
  .exact .inl rfl
  right;unfold ky;refine List.mem_flatten.2 ⟨_,List.mem_map.2 ⟨a,ha,rfl⟩,?_⟩;unfold oN;rw[Hg hg,hl];simp
 obtain⟨a,ha,rfl,hl⟩:=Kt hd;rw[Hg hg] at hl⊢;refine⟨rfl,?_⟩;have Ng:kx q.au a.key≠gm:=λe=>by
  have Nh:bQ a.aY.ar (kx q.au a.key)=true:=hl;rw[e,DL (hg a ha)] at Nh;cases Nh
 rcases Kw (l:=q.au) (key:=a.key) with e|⟨b,hb,e⟩
 .exact absurd e Ng
 have hby:b.yes=true:=by
  cases hy:b.yes
  .exfalso;rw[xb (hg b hb) hy] at e;exact Ng e.symm
  rfl
 have hvb:=hv b hb hby;rcases CZ (l:=b.aY.aQ) (key:=a.key) with e2|e2
 .exact absurd (e.symm.trans e2) Ng
 rw[e] at e2;obtain⟨u,h1,h2,h3⟩:=Wz h hvb _ e2;exact⟨u,h1,h2,λkey=>C8 (h3 key) (U5 hb key)⟩
def nQ.of {w:ai} {q p:Call} (g:nQ w q) (h1:p.aj=q.aj) (h2:p.au=q.au) (h3:p.ctx=q.ctx) (h4:p.kind=q.kind) (h5:p.keys=q.keys) (h6:p.aL=q.aL):nQ w p:=
 ⟨by rw[h1,h2];exact g.eC,by rw[h2,h3];exact g.ctx,by rw[h1,h2,h4,h5,h6];exact g.full⟩
def ajC {w:ai} (h:Inv w) {q:Call} {t:Int} (hq:dJ q t) (g:nQ w q) (hw:bV q=true) {a:Answer} (ha:dL a=true) (gH:iE q.keys a.key=true) (hn:cv q a.key<0)
 (hv:a.yes=true->be w q.aj.toNat a.aY) (hc:bQ a.aY.ar (bI q.ctx a.key)=false):nQ w (mb q a t):=by
 obtain⟨uz,_⟩:=GY hq gH hn;have ng:∀x∈dj q.au a,x.yes=true->be w q.aj.toNat x.aY:=λx hx hy=>by
  rcases oW.1 hx with rfl|hx
  .exact hv hy
  exact g.eC x hx hy
 have js:∀x∈dj q.au a,bQ x.aY.ar (bI q.ctx x.key)=false:=λx hx=>by
  rcases oW.1 hx with rfl|hx
  .exact hc
  exact g.ctx x hx
 have qF:∀x∈dj q.au a,dL x=true:=λx hx=>by
  rcases oW.1 hx with rfl|hx
  .exact ha
  exact hq.aN x hx
 unfold mb;dsimp only;split
 .rename_i hl;refine⟨ng,js,λ_ e=>?_⟩;have e':(dj q.au a).length=q.keys.length:=e;have Nh:(dj q.au a).length<q.keys.length:=hl;omega
 have key:nQ w {q with au:=dj q.au a,aL:=q.aL++ky {q with au:=dj q.au a}}:=by
  refine⟨ng,js,λ_ _=>?_⟩;have:=ajz h (q:={q with au:=dj q.au a}) qF ng;rw[uz,List.nil_append];exact this
 unfold kV;split
 .exact key.of rfl rfl rfl rfl rfl rfl
 exact key
def ajD {w:ai} (h:Inv w) {q:Call} {t:Int} (hq:dJ q t) (g:nQ w q) (hk:q.kind≠1) {a:Answer} (ha:dL a=true) (hy:a.yes=true) (hv:be w q.aj.toNat a.aY):nQ w (lu q a t):=by
 unfold lu;split
 .rename_i dr;have aW:q.aL≠[]:=λe=>by rw[e] at dr;simp at dr
  have hlen:=hq.full.resolve_left aW;obtain⟨C,c1,c2,c3⟩:=g.full hk hlen;obtain⟨d1,u,u1,u2,u3⟩:=c3 _ dr;have hau:u=a.aY:=h.uniq _ _ _ _ u1 hv u2;subst hau;have yy:a.aY.key=a.key:=(qO ha hy).2;have vR:=hq.xA _ dr;unfold ug at vR;rw[Bool.and_eq_true,decide_eq_true_eq] at vR;have zs:0<=cv q a.key:=by rw[<-yy];exact vR.1
  obtain⟨i1,i2⟩:=vP zs;have bj:a.aY.ar=C a.key:=by rw[<-yy];exact d1
  have ng:∀x∈q.au.set (cv q a.key).toNat a,x.yes=true->be w q.aj.toNat x.aY:=λx hx hxy=>by
   rcases xm hx with rfl|⟨k,mw,eR,rfl⟩
   .exact hv
   exact g.eC _ (bh mw) hxy
  have hold:=g.ctx _ (bh i1);rw[i2] at hold;have hb:bQ a.aY.ar (ab q.au (cv q a.key).toNat).aY.ar=false:=by
   have ho:=vR.2;have ME:a.aY.aU.key=a.key:=yy;rw[ME] at ho;unfold nE at ho;rw[Bool.or_eq_true] at ho;rcases ho with ho|ho
   .rw[xb (hq.aN _ (bh i1)) (by simpa using ho)];exact Sl (qO ha hy).1
   exact CU ho
  have js:∀x∈q.au.set (cv q a.key).toNat a,bQ x.aY.ar (bI q.ctx x.key)=false:=λx hx=>by
   rcases xm hx with rfl|⟨k,mw,eR,rfl⟩
   .exact C8 hold hb
   exact g.ctx _ (bh mw)
  have key:∀e:Int,nQ w {q with au:=q.au.set (cv q a.key).toNat a,aL:=q.aL.filter λd=>decide (d≠a.aY.aU),end_:=e}:=λe=>by
   refine⟨ng,js,λ_ _=>⟨C,λx hx key=>?_,λx hx=>?_,λd hd=>c3 d (su hd)⟩⟩
   .rcases xm hx with rfl|⟨k,mw,eR,rfl⟩
    .exact u3 key
    exact c1 _ (bh mw) key
   rcases xm hx with rfl|⟨k,mw,eR,rfl⟩
   .left;rw[bj];exact C9 _
   rcases c2 _ (bh mw) with hh|hh
   .exact .inl hh
   right;refine List.mem_filter.2 ⟨hh,?_⟩;rw[decide_eq_true_eq];intro e;have e2:(ab q.au k).key=a.aY.key:=congrArg aw.key e;have:k=(cv q a.key).toNat:=TF hq.sorted mw i1 (by rw[e2,yy,i2]);exact eR this
  dsimp only;split
  .exact key _
  exact(key q.end_).of rfl rfl rfl rfl rfl rfl
 exact g
structure Hp (w:ai) (q p:Call):Prop where
 same:j2 q p
 au:nQ w p
 done:p.kind=1->p.end_≠0->∃v,be w p.aj.toNat v/\v.aj=p.aj/\v.call=p.num/\v.key=ab p.keys 0/\v.ar=p.ar
 kG:p.end_≠0->nK w p.aj.toNat (gJ p)
def ajG {w:ai} (h:Inv w) {q:Call} (hq:q∈w.calls) (hw0:bV q=true) {m:az} (g:eL w m):Hp w q (cQ q m w.time):=by
 have zA:=h.au q hq;have uG:dJ q w.time:=by obtain⟨i,hi,rfl⟩:=fS hq;exact h.aN.call hi
 have lT:=(oZ hw0).1;have hp:dJ (cQ q m w.time) w.time:=Bo uG;have U:=Hd q m w.time;have bq:=h.ctx q hq;have WB:Hp w q q:=⟨j2.refl q,zA,λ_ e=>absurd lT e,λe=>absurd lT e⟩;have read:∀p,nQ w p->dJ p w.time->j2 q p->p.kind≠1->Hp w q p:=λp gp cp s hk=>by
  refine⟨s,gp,λe=>absurd e hk,λe=>?_⟩;unfold gJ;rw[if_neg e,if_neg hk];obtain⟨s1,_,_,_,_,s6⟩:=s;exact Nf h (by rw[s1,s6];exact bq) cp.ctx cp.aN gp.eC
 unfold cQ at hp U⊢;split
 .rename_i hc;rw[if_pos hc] at hp U;simp only[Bool.and_eq_true,decide_eq_true_eq,beq_iff_eq] at hc;obtain⟨⟨⟨⟨⟨hm,eO⟩,DQ⟩,gH⟩,hw⟩,hb⟩:=hc;split
  .rename_i hk;rw[if_pos hk] at hp U;split
   .rename_i fH;rw[if_pos fH] at hp U;obtain⟨v,v1,v2,v3,v4,v5⟩:=g.k2 fH.1;have ajI:m.to-10=q.aj:=by omega
    rw[ajI] at v1 v2;have LM:m.key=ab q.keys 0:=by
     have h1:q.keys.length=1:=by have:=uG.keys;simp[fU,hk] at this;omega
     obtain⟨x,hx⟩:=List.length_eq_one_iff.1 h1;have:=lR.1 gH;rw[hx] at this⊢;simpa[ab] using this
    obtain⟨p,Ni,c1,c2,c3,c4,c5,c6⟩:=h.made _ v v1;have zy:p=q:=DW h.aN Ni hq (by rw[c1,v2]) (by rw[c2,v3,DQ]);subst zy;have ht:w.time≠0:=by have:=uG.bH;omega
    refine⟨U,zA.of rfl rfl rfl rfl rfl rfl,λ_ _=>⟨v,v1,v2,by rw[v3,DQ],by rw[v4,LM],v5⟩,λ_=>?_⟩;have e:gJ {p with ar:=m.ar,end_:=w.time}=gI p.ctx v.aU:=by
     unfold gJ;have e1:({p with ar:=m.ar,end_:=w.time}:Call).end_=w.time:=rfl;rw[if_neg (by rw[e1];exact ht),if_pos hk];show gI p.ctx ⟨ab p.keys 0,m.ar⟩=_;rw[<-LM,<-v4,<-v5];rfl
    rw[e];exact U4 bq uG.ctx v1 (by rw[v5];exact fH.2) (by rw[<-c6];exactλkey=>C9 _)
   exact WB
  rename_i hk;rw[if_neg hk] at hp U;have ya:∀p,j2 q p->p.kind≠1:=λp s e=>hk (by rw[<-s.2.2.1];exact e);refine(?_:nQ w (iw q m w.time)->_) ?_
  .exactλhg=>read _ hg hp U (ya _ U)
  unfold iw;split
  .rename_i hr;obtain⟨p,Ni,k1,k2,k3,k4⟩:=g.k4 hr.1;have zy:p=q:=DW h.aN Ni hq om (by rw[k2,DQ]);subst zy;have tb:=Dh (q:=p) hm hr.2;have Nj:m.yes=true->∃v,(cX m).aY=v/\v.key=m.key/\be w p.aj.toNat v/\(dw m.ar=true->bQ v.ar (bI p.ctx m.key)=false):=λhy=>by
    obtain⟨v,b1,b2,b3,b4,_⟩:=k3 hy;exact⟨v,by unfold cX;simp only[hy,if_true];rw[b1];rfl,b2,b3,b4⟩
   split
   .rename_i hn;split
    .rename_i xF;refine ajC h uG zA hw tb gH hn (λhy=>?_) ?_
     .obtain⟨v,e,_,b,_⟩:=Nj hy;rw[e];exact b
     cases hy:m.yes
     .have e:(cX m).aY=sE:=by unfold cX;simp[hy]
      rw[e];show bQ sE.ar (bI p.ctx m.key)=false;rw[(k4 hy).2];rfl
     obtain⟨v,e,_,_,b⟩:=Nj hy;rw[e];exact b xF
    exact zA
   split
   .rename_i hy;obtain⟨v,e,_,b,_⟩:=Nj hy;exact ajD h uG zA hk tb hy (by rw[e];exact b)
   exact zA
  exact zA
 exact WB
def Inv.frame {w x:ai} (h:Inv w) (U:x.aC=w.aC) (hc:x.calls=w.calls) (hn:x.seen=w.seen) (hg:bX x) (hr:∀m∈x.al,eL w m):Inv x:=by
 obtain⟨xt,xs,xr,xc,xn⟩:=x;dsimp only at U hc hn hr;subst U hc hn;have hx:Ext w ⟨xt,w.aC,xr,w.calls,w.seen⟩:=⟨λh=>h,λh=>h,λ_ _ _ _=>Int.le_refl _,λq hq=>⟨q,hq,j2.refl q⟩⟩;exact⟨hg,h.fits,h.p9,h.te,h.D1,h.lU,h.ba,h.aE,h.q8,h.home,h.uniq,h.once,h.made,h.done,h.ctx,h.seen,λq hq=>(h.au q hq).ext hx,h.kG,h.fresh,λm hm=>(hr m hm).ext hx (hg.words m hm) λ_ _ hf=>.inr hf⟩
def Inv.Nk {w:ai} (h:Inv w) {i:Nat} (hi:i<w.calls.length) (hw:bV (ab w.calls i)=true) {p:Call} (hp:Hp w (ab w.calls i) p) {l:List (List aw)} (hl:(p.end_=0/\l=w.seen)\/(p.end_≠0/\l=w.seen.set p.aj.toNat (gJ p)))
 (hg:bX {w with calls:=w.calls.set i p,seen:=l}):Inv {w with calls:=w.calls.set i p,seen:=l}:=by
 have Nl:=bh hi;obtain⟨s1,s2,s3,s4,s5,s6⟩:=hp.same;have hx:Ext w {w with calls:=w.calls.set i p,seen:=l}:=⟨λh=>h,λh=>h,λ_ _ _ _=>Int.le_refl _,λq hq=>by
  obtain⟨k,hk,rfl⟩:=fS hq;by_cases e:k=i
  .subst e;exact⟨p,Ll hi,hp.same⟩
  exact⟨_,Lm hk e,j2.refl _⟩⟩
 have bq:=pe h.aN Nl;have js:∀q∈w.calls.set i p,q=p\/q∈w.calls:=λq hq=>by
  rcases xm hq with rfl|⟨k,hk,_,rfl⟩
  .exact .inl rfl
  exact .inr (bh hk)
 refine⟨hg,h.fits,h.p9,h.te,h.D1,h.lU,h.ba,h.aE,h.q8,h.home,h.uniq,h.once,λσ v hv=>?_,λq hq=>?_,λq hq=>?_,λk hk=>?_,λq hq=>?_,λj hj=>?_,λk hk kS=>?_,λm hm=>(h.words m hm).ext hx (hg.words m hm) λ_ _ hf=>.inr hf⟩
 .obtain⟨q,hq,c1,c2,c3,c4,c5,c6⟩:=h.made σ v hv;obtain⟨r,hr,t1,t2,t3,t4,t5,t6⟩:=hx.calls q hq;exact⟨r,hr,t1.trans c1,t2.trans c2,t3.trans c3,by rw[t4];exact c4,t5.trans c5,t6.trans c6⟩
 .rcases js q hq with rfl|hq
  .exact hp.done
  exact h.done q hq
 .rcases js q hq with rfl|hq
  .show nK w q.aj.toNat q.ctx;rw[s1,s6];exact h.ctx _ Nl
  exact h.ctx q hq
 .show nK w k (ab l k);rcases hl with⟨_,rfl⟩|⟨he,rfl⟩
  .exact h.seen k hk
  rw[fC (by rw[h.aN.seen,s1];exact bq.1)];split
  .rename_i e;rw[e];exact hp.kG he
  exact h.seen k hk
 .rcases js q hq with rfl|hq
  .exact hp.au.ext hx
  exact(h.au q hq).ext hx
 .have uY:j<w.calls.length:=by have:j<(w.calls.set i p).length:=hj;rwa[List.length_set] at this
  have hec:∀k,(ab (w.calls.set i p) k).aj=(ab w.calls k).aj:=λk=>by
   rw[fC hi];split
   .rename_i e;subst e;exact s1
   rfl
  have hex:∀k,(ab (w.calls.set i p) k).ctx=(ab w.calls k).ctx:=λk=>by
   rw[fC hi];split
   .rename_i e;subst e;exact s6
   rfl
  have hn:oj {w with calls:=w.calls.set i p,seen:=l} j=if 0<=iF w.calls j (ab w.calls j).aj then(ab w.calls (j+1+(iF w.calls j (ab w.calls j).aj).toNat)).ctx else ab l (ab w.calls j).aj.toNat:=by
   unfold oj;dsimp only;rw[hec,afX hi s1,hex]
  rw[hn];show gJ (ab (w.calls.set i p) j)=_;rw[fC hi];split
  .rename_i e;subst e;rw[if_neg (by have:=Ly (l:=w.calls) (i:=j) (x:=(ab w.calls j).aj) λk h1 h2=>DR h.aN hw h1 h2;omega)];rcases hl with⟨he,rfl⟩|⟨he,rfl⟩
   .have hold:=h.kG j uY;have e0:gJ p=p.ctx:=by unfold gJ;rw[if_pos he]
    have e1:gJ (ab w.calls j)=(ab w.calls j).ctx:=by unfold gJ;rw[if_pos (oZ hw).1]
    rw[e0,s6,<-e1,hold];unfold oj;rw[if_neg (by have:=Ly (l:=w.calls) (i:=j) (x:=(ab w.calls j).aj) λk h1 h2=>DR h.aN hw h1 h2;omega)]
   rw[fC (by rw[h.aN.seen,s1];exact bq.1),if_pos (by rw[s1])]
  rename_i e;have hold:=h.kG j uY;rw[hold];unfold oj;split
  .rfl
  rename_i hnn;rcases hl with⟨he,rfl⟩|⟨he,rfl⟩
  .rfl
  rw[fC (by rw[h.aN.seen,s1];exact bq.1),if_neg];intro e2;have hcj:=pe h.aN (bh uY);have e3:(ab w.calls j).aj=(ab w.calls i).aj:=by rw[s1] at e2;omega
  rcases Nat.lt_or_gt_of_ne e with bz|bz
  .exact afY om bz hi e3.symm
  exact DR h.aN hw bz uY e3
 have Nm:∀q∈w.calls,q.aj≠(k:Int):=λq hq e=>by
  obtain⟨r,hr,t1,_⟩:=hx.calls q hq;exact kS r hr (t1.trans e)
 show ab l k=[];rcases hl with⟨_,rfl⟩|⟨he,rfl⟩
 .exact h.fresh k hk Nm
 rw[fC (by rw[h.aN.seen,s1];exact bq.1),if_neg]
 .exact h.fresh k hk Nm
 intro e;have:=Nm _ Nl;rw[s1] at e;omega
def Inv.begin {w:ai} (h:Inv w) {e:Ev} (hc:eF e.aj=true) (hg:bX {w with calls:=w.calls++[ey w e]}):Inv {w with calls:=w.calls++[ey w e]}:=by
 have js:=qS.1 hc;have hx:Ext w {w with calls:=w.calls++[ey w e]}:=⟨λh=>h,λh=>h,λ_ _ _ _=>Int.le_refl _,λq hq=>⟨q,List.mem_append_left _ hq,j2.refl q⟩⟩;have hm:∀q∈w.calls++[ey w e],q∈w.calls\/q=ey w e:=λq hq=>by
  rcases List.mem_append.1 hq with hq|hq
  .exact .inl hq
  exact .inr (by simpa using hq)
 refine⟨hg,h.fits,h.p9,h.te,h.D1,h.lU,h.ba,h.aE,h.q8,h.home,h.uniq,h.once,λσ v hv=>?_,λq hq=>?_,λq hq=>?_,h.seen,λq hq=>?_,λj hj=>?_,λk hk kS=>h.fresh k hk λq hq=>kS q (List.mem_append_left _ hq),λm hm=>(h.words m hm).ext hx (hg.words m hm) λ_ _ hf=>.inr hf⟩
 .obtain⟨q,hq,c⟩:=h.made σ v hv;exact⟨q,List.mem_append_left _ hq,c⟩
 .rcases hm q hq with hq|rfl
  .exact h.done q hq
  exactλ_ e=>absurd rfl e
 .rcases hm q hq with hq|rfl
  .exact h.ctx q hq
  exact h.seen _ (by show e.aj.toNat<2;omega)
 .rcases hm q hq with hq|rfl
  .exact(h.au q hq).ext hx
  refine⟨λa ha=>by simp[ey,oM] at ha,λa ha=>by simp[ey,oM] at ha,λ_ hl=>?_⟩;have:(eZ e).length=0:=by have:0=(eZ e).length:=hl;omega
  simp[eZ] at this
 show gJ (ab (w.calls++[ey w e]) j)=oj {w with calls:=w.calls++[ey w e]} j;unfold oj;dsimp only;have uY:j<w.calls.length+1:=by have:j<(w.calls++[ey w e]).length:=hj;simpa using this
 rcases Nat.lt_or_ge j w.calls.length with bz|lY
 .rw[sL bz,h.kG j bz,afZ bz];unfold oj;by_cases hn:0<=iF w.calls j (ab w.calls j).aj
  .rw[if_pos hn,if_pos hn,if_pos hn,sL (T7 hn).1]
  rw[if_neg hn,if_neg hn];by_cases sZ:(ey w e).aj=(ab w.calls j).aj
  .rw[if_pos sZ,if_pos (Int.natCast_nonneg _),Int.toNat_natCast,show j+1+(w.calls.length-(j+1))=w.calls.length by omega,AM];show ab w.seen _=ab w.seen e.aj.toNat;rw[<-sZ];rfl
  rw[if_neg sZ,if_neg om]
 have:j=w.calls.length:=by omega
 subst this;rw[AM,if_neg]
 .show gJ (ey w e)=ab w.seen e.aj.toNat;rfl
 have:=Ly (l:=w.calls++[ey w e]) (i:=w.calls.length) (x:=(ey w e).aj) λk h1 h2=>by
  rw[List.length_append,List.length_singleton] at h2;omega
 omega
def Inv.answer {w:ai} (h:Inv w) {m:az} (g:eL w m):Inv (jC w m):=by
 have hg:=Wm h.aN m;unfold jC at hg⊢;dsimp only at hg⊢;split
 .exact h
 rename_i hn;rw[if_neg hn] at hg;obtain⟨h1,h2,h3⟩:=na (l:=w.calls) (aj:=m.to-10) om;have hc:=ajG h (bh h1) h3 g;have nq:∀p:Call,dJ p w.time->¬0<p.end_->p.end_=0:=λp hp hn=>by
  apply Classical.byContradiction;intro e;have:=(hp.ended e).2.1;have:=hp.bH;omega
 split
 .rename_i he;rw[if_pos he] at hg;have e1:(m.to-10).toNat=(cQ (ab w.calls (cq w.calls (m.to-10)).toNat) m w.time).aj.toNat:=by rw[hc.same.1,h2]
  rw[e1] at hg⊢;exact h.Nk h1 h3 hc (.inr ⟨by omega,rfl⟩) hg
 rename_i he;rw[if_neg he] at hg;exact h.Nk h1 h3 hc (.inl ⟨nq _ (Bo (h.aN.call h1)) he,rfl⟩) hg
def ajK {w:ai} (h:Inv w) {q:Call} (hq:q∈w.calls):∀m∈gD q,eL w m:=by
 intro m hm;unfold gD at hm;split at hm
 .obtain⟨ws,h1,h2⟩:=List.mem_flatten.1 hm;obtain⟨x,hx,rfl⟩:=List.mem_map.1 h1;have hc:=pe h.aN hq;have eO:m.aT=10+q.aj/\q.num=m.call/\m.to/2=q.aj/\m.kind=x.kind/\m.key=x.key/\m.val=x.val/\m.aQ=x.aQ:=by
   unfold jq at h2;rcases List.mem_cons.1 h2 with rfl|h2
   .exact⟨rfl,rfl,by show 2*q.aj/2=_;omega,rfl,rfl,rfl,rfl⟩
   obtain rfl:m=_:=by simpa using h2
   exact⟨rfl,rfl,by show(2*q.aj+1)/2=_;omega,rfl,rfl,rfl,rfl⟩
  obtain⟨t1,t2,t3,t4,t5,t6,t7⟩:=eO;unfold asks at hx;split at hx
  .rename_i hk;obtain rfl:x=_:=by simpa using hx
   exact ah3 t4 ⟨q,hq,t1,t2,t3,hk,t5.symm,t6.symm,t7.symm⟩
  rcases List.mem_append.1 hx with hx|hx
  .obtain⟨k,_,rfl⟩:=List.mem_map.1 hx;exact V3 t4 ⟨q,hq,t1,t2,t3⟩
  obtain⟨k,_,rfl⟩:=List.mem_map.1 hx;exact V3 t4 ⟨q,hq,t1,t2,t3⟩
 simp at hm
def ajL {al more:List az} {m:az} (h:m∈eN al more):m∈al\/m∈more:=by
 unfold eN at h;rcases List.mem_append.1 h with h|h
 .exact .inl h
 exact .inr (List.mem_of_mem_take h)
def Inv.send {w:ai} (h:Inv w) {ws:List az} (ao:∀m∈ws,bK m=true) (hw:∀m∈ws,eL w m):Inv {w with al:=eN w.al ws}:=
 h.frame rfl rfl rfl (h.aN.send ao) λm hm=>by
  rcases ajL hm with hm|hm
  .exact h.words m hm
  exact hw m hm
def Inv.al {w:ai} (h:Inv w) (e:Ev):Inv (iG w e).1:=by
 unfold iG;split
 .rename_i hr;simp only[aJ,Bool.and_eq_true,decide_eq_true_eq] at hr;have dr:ab w.al e.word.toNat∈w.al:=bh om;have hm:=h.aN.words _ dr;have WC:=h.words _ dr;have h1:Inv (if e.kind=5\/e.gi=0 then{w with al:=w.al.take e.word.toNat++w.al.drop (e.word.toNat+1)} else w):=by
   split
   .have U:=Ax w.al e.word.toNat;exact h.frame rfl rfl rfl ⟨h.aN.time,h.aN.aC,h.aN.site,Nat.le_trans U.length_le h.aN.al,λm hm=>h.aN.words m (U.subset hm),h.aN.seen,h.aN.kG,h.aN.calls⟩ λm hm=>h.words m (U.subset hm)
   exact h
  have WD:eL (if e.kind=5\/e.gi=0 then{w with al:=w.al.take e.word.toNat++w.al.drop (e.word.toNat+1)} else w) (ab w.al e.word.toNat):=by
   split
   .exact eL.ext (w:=w) (x:={w with al:=w.al.take e.word.toNat++w.al.drop (e.word.toNat+1)}) ⟨λh=>h,λh=>h,λ_ _ _ _=>Int.le_refl _,λq hq=>⟨q,hq,j2.refl q⟩⟩ hm WC λ_ _ hf=>.inr hf
   exact WC
  have iR:(if e.kind=5\/e.gi=0 then{w with al:=w.al.take e.word.toNat++w.al.drop (e.word.toNat+1)} else w).aC=w.aC:=by split<;>rfl
  dsimp only;generalize (if e.kind=5\/e.gi=0 then{w with al:=w.al.take e.word.toNat++w.al.drop (e.word.toNat+1)} else w)=w1 at*;split
  .exact h1
  split
  .exact h1.answer WD
  rename_i bq;have eO:0<=(ab w.al e.word.toNat).to/\(ab w.al e.word.toNat).to<=3:=by
   have:=(ma hm).2.2.1;simp only[lH,cM,aJ,Bool.or_eq_true,Bool.and_eq_true,decide_eq_true_eq] at this bq;omega
  have hi:(ab w.al e.word.toNat).to.toNat<4:=by omega
  have hh:=Wy h1 hi (m:=ab w.al e.word.toNat) om WD;have Nn:=V9 (m:=ab w.al e.word.toNat) (h1.cT hi);have:=hh.inv.send Nn hh.words;rw[<-iR];exact this
 exact h
def Inv.aj {w:ai} (h:Inv w) (e:Ev) (ao:(g7 w e).2=true):Inv (g7 w e).1:=by
 have hg:=Wn h.aN e ao;unfold g7 at*;split at ao
 .rename_i hk;rw[if_pos hk] at hg⊢;unfold kb at*;split at ao
  .rename_i hc;rw[if_pos hc] at hg⊢;rw[Bool.and_eq_true] at hc;exact h.begin hc.1 hg
  cases ao
 rename_i hk;rw[if_neg hk] at hg⊢;dsimp only at ao hg⊢;split
 .exact h
 rename_i hn;rw[if_neg hn] at hg;obtain⟨h1,h2,h3⟩:=na (l:=w.calls) (aj:=e.aj) om;have he:=(oZ h3).1;split
 .rename_i kY;rw[if_pos kY] at hg;exact h.Nk (p:={ab w.calls (cq w.calls e.aj).toNat with over:=true}) (l:=w.seen) h1 h3 ⟨⟨rfl,rfl,rfl,rfl,rfl,rfl⟩,(h.au _ (bh h1)).of rfl rfl rfl rfl rfl rfl,λ_ e=>absurd he e,λe=>absurd he e⟩ (.inl ⟨he,rfl⟩) hg
 exact h.send (MZ (h.aN.call h1)) (ajK h (bh h1))
def ev (kind at_ aj:Int):Ev:=⟨kind,at_,aj,0,0,0,0,0,0,0,0⟩
def cU (w:ai):ai:=bR w (ev 4 0 0)
def Hq {w:ai} {m:az} {r:List az} (h:w.al=m::r):(cD w (ev 4 0 0)).2=true/\(cD w (ev 4 0 0)).1=if aJ m.to 10 11 then jC {w with time:=w.time+1,al:=r} m else
 {w with time:=w.time+1,aC:=w.aC.set m.to.toNat (cN (ab w.aC m.to.toNat) m).1,al:=eN r (cN (ab w.aC m.to.toNat) m).2}:=by
 have e1:aJ (ev 4 0 0).word 0 ((({w with time:=w.time+1}:ai).al.length:Int)-1)=true:=by
  show aJ 0 0 ((w.al.length:Int)-1)=true;rw[h];simp[aJ]
 have e2:ab ({w with time:=w.time+1}:ai).al (ev 4 0 0).word.toNat=m:=by
  show ab w.al 0=m;rw[h];rfl
 unfold cD;dsimp only;rw[if_neg aP,if_pos aP];unfold iG;rw[if_pos e1];dsimp only;rw[e2,if_pos (show(ev 4 0 0).kind=5\/(ev 4 0 0).gi=0 from .inr rfl),if_neg (show¬(ev 4 0 0).kind=5 by decide)];have e3:w.al.take (ev 4 0 0).word.toNat++w.al.drop ((ev 4 0 0).word.toNat+1)=r:=by
  show w.al.take 0++w.al.drop 1=r;rw[h];rfl
 rw[e3];split<;>exact⟨rfl,rfl⟩
def xI {w:ai} {m:az} {r:List az} (h:w.al=m::r):cU w=if aJ m.to 10 11 then jC {w with time:=w.time+1,al:=r} m else
 {w with time:=w.time+1,aC:=w.aC.set m.to.toNat (cN (ab w.aC m.to.toNat) m).1,al:=eN r (cN (ab w.aC m.to.toNat) m).2}:=by
 unfold cU bR;rw[if_pos (Hq h).1,(Hq h).2]
structure Calm (w:ai):Prop where
 inv:Inv w
 more:iH w
 up:∀i,i<4->(sv w i).up=true
def D6 {x:ai} (h:Inv x) {m:az} {r:List az} (hr:x.al=m::r) {j:Nat} (hj:j<4):sv (cU x) j=sv x j\/(m.to=(j:Int)/\aJ m.to 10 11=false/\sv (cU x) j=(cN (sv x j) m).1):=by
 have hm:=h.aN.words m (by rw[hr];simp);rw[xI hr];split
 .left;unfold sv;rw[LN]
 rename_i bq;have eO:0<=m.to/\m.to<=3:=by
  have:=(ma hm).2.2.1;simp only[lH,cM,aJ,Bool.or_eq_true,Bool.and_eq_true,decide_eq_true_eq] at this bq;omega
 unfold sv;dsimp only;rw[fC (by rw[h.aN.aC];omega)];split
 .rename_i e;right;refine⟨by omega,by simpa using bq,?_⟩;rw[<-e]
 exact .inl rfl
def tg {x:ai} (h:Calm x) {j:Nat} (hj:j<4) {m:az} (hm:bK m=true) (eO:m.to=(j:Int)):cN (sv x j) m=dh (sv x j) m:=by
 unfold cN;rw[if_pos (by rw[h.up j hj,hm,eO,h.inv.site hj];simp)]
def No {x:ai} (h:Calm x) (hr:Rest x) {j:Nat} (hj:j<4) {m:az} (hm:bK m=true) (g:eL x m):(dh (sv x j) m).1.aD=(sv x j).aD/\(m.kind=9\/m.kind=10->(dh (sv x j) m).1=sv x j):=by
 have h3:=KJ hm;unfold dh;split
 .refine⟨?_,λe=>by omega⟩;unfold gC;split
  .split
   .rfl
   split
   .exact sH _
   rfl
  rfl
 split
 .exact⟨rfl,λ_=>rfl⟩
 split
 .refine⟨?_,λe=>by omega⟩;unfold gu;split
  .dsimp only;split
   .split
    .exact sH _
    rfl
   exact sH _
  rfl
 split
 .refine⟨?_,λe=>by omega⟩;show(jw _ _).aD=_;unfold jw;split<;>rfl
 split
 .exact⟨rfl,λ_=>rfl⟩
 split
 .refine⟨?_,λe=>by omega⟩;show(ib _ _).aD=_;unfold ib;split
  .exact sH _
  rfl
 split
 .rename_i hk;have e:(gq (sv x j) m).1=sv x j:=by
   unfold gq;split
   .rename_i hc;split
    .rfl
    rename_i aW;exfalso;rw[Bool.and_eq_true,beq_iff_eq] at hc;obtain⟨f1,_⟩:=Bv h.inv hj hc.1;obtain⟨_,k9⟩:=g.k9 hk;rw[f1,jA] at k9;have:=(k9.resolve_left aW).1;exact hr _ (j1 hj) _ h3 (by rw[this])
   rfl
  exact⟨by rw[e],λ_=>e⟩
 split
 .have e:jL (sv x j) m=sv x j:=by
   unfold jL;rw[if_neg];intro hc;simp only[Bool.and_eq_true,beq_iff_eq] at hc;exact hr j hj _ h3 hc.1.2
  exact⟨by show(jL _ _).aD=_;rw[e],λ_=>e⟩
 exact⟨rfl,λ_=>rfl⟩
structure Phase (w:ai) (n:Int) (x:ai):Prop where
 calm:Calm x
 rest:Rest x
 kinds:∀m∈x.al,n<=m.kind
 aD:∀j,j<4->(sv x j).aD=(sv w j).aD
 aE:∀j,j<4->∀d∈(sv x j).aE,d∈(sv w j).aE
def ajM {x:ai} (h:Calm x) (hr:Rest x) {j:Nat} (hj:j<4) {m:az} (hm:bK m=true) (g:eL x m) (hk:7<=m.kind):(∀v∈(sv x j).an,v∈(dh (sv x j) m).1.an)/\(∀v∈(dh (sv x j) m).1.waits,v∈(sv x j).waits)/\
 ∀v d,v∈(dh (sv x j) m).1.waits->d∈v.aQ->eG (sv x j) d=true->eG (dh (sv x j) m).1 d=true:=by
 have h9:=(No h hr hj hm g).2;have same:∀{s:Server},s=sv x j->(∀v∈(sv x j).an,v∈s.an)/\(∀v∈s.waits,v∈(sv x j).waits)/\∀v d,v∈s.waits->d∈v.aQ->eG (sv x j) d=true->eG s d=true:=λe=>by
  rw[e];exact⟨λv hv=>hv,λv hv=>hv,λ_ _ _ _ U=>U⟩
 by_cases hb:m.kind=9\/m.kind=10
 .exact same (h9 hb)
 unfold dh;rw[if_neg om,if_neg om,if_neg om,if_neg om];split
 .exact same rfl
 split
 .show(∀v∈(sv x j).an,v∈(ib (sv x j) m).an)/\(∀v∈(ib (sv x j) m).waits,v∈(sv x j).waits)/\∀v d,v∈(ib (sv x j) m).waits->d∈v.aQ->eG (sv x j) d=true->eG (ib (sv x j) m) d=true;unfold ib;split
  .refine⟨λv hv=>Ti (s:={sv x j with ba:=eA (sv x j).ba ⟨m.key,m.ar⟩}) hv,λv hv=>(K3 (s:={sv x j with ba:=eA (sv x j).ba ⟨m.key,m.ar⟩})).2 v hv,λv d hv hd U=>U9 (s:={sv x j with ba:=eA (sv x j).ba ⟨m.key,m.ar⟩}) ?_ hv hd⟩;rcases Ub U with h1|h1
   .exact KM (s:={sv x j with ba:=eA (sv x j).ba ⟨m.key,m.ar⟩}) h1
   exact LB (s:={sv x j with ba:=eA (sv x j).ba ⟨m.key,m.ar⟩}) (xp.2 (.inr h1))
  exact same rfl
 split
 .exact absurd (.inl ‹_›) hb
 split
 .exact absurd (.inr ‹_›) hb
 exact same rfl
structure th (w x:ai):Prop where
 ph:Phase w 7 x
 an:∀j,j<4->∀v∈(sv w j).an,v∈(sv x j).an
 waits:∀j,j<4->∀v∈(sv x j).waits,v∈(sv w j).waits
def th.at {w x:ai} (h:th w x) {m:az} {r:List az} (hx:x.al=m::r) {j:Nat} (hj:j<4):(∀v∈(sv x j).an,v∈(sv (cU x) j).an)/\(∀v∈(sv (cU x) j).waits,v∈(sv x j).waits)/\
 ∀v d,v∈(sv (cU x) j).waits->d∈v.aQ->eG (sv x j) d=true->eG (sv (cU x) j) d=true:=by
 have dr:m∈x.al:=by rw[hx];simp
 have hm:=h.ph.calm.inv.aN.words m dr;rcases D6 h.ph.calm.inv hx hj with e|⟨h1,_,e⟩
 .rw[e];exact⟨λv hv=>hv,λv hv=>hv,λ_ _ _ _ U=>U⟩
 rw[e,tg h.ph.calm hj hm h1];exact ajM h.ph.calm h.ph.rest hj hm (h.ph.calm.inv.words m dr) (h.ph.kinds m dr)
structure mg (w x:ai) (t:Nat):Prop where
 inv:Inv x
 more:iH x
 eC:∀σ v,be w σ v->be x σ v
 time:x.time<=w.time+t
def mg.rfl {w:ai} (h:Inv w) (hm:iH w):mg w w 0:=⟨h,hm,λ_ _ hv=>hv,by omega⟩
def putAt (own:List aA) (q:Call):Bool:=decide (0<=placeOf own ⟨ab q.keys 0,q.ar⟩)&&((ab own (placeOf own ⟨ab q.keys 0,q.ar⟩).toNat).val==q.val)&&((ab own (placeOf own ⟨ab q.keys 0,q.ar⟩).toNat).aj==q.aj)&&((ab own (placeOf own ⟨ab q.keys 0,q.ar⟩).toNat).call==q.num)
def ajN (n:Nat) (hn:n<=1048576):
 kQ prog 255 [AV.val (.slice none 0 0),AV.int n] 54 7 []:=by
 refine kQ.intro 27 func255 rfl ntmps255 rfl aO (λW I a U=>?_);refine aR λI a w U=>?_;refine U.cd (λae=>?_) λae=>?_
 .exfalso;simp only[B] at ae;omega;skip
 refine aG λI a w U=>?_;refine U.o (Co di .tt) λU=>U.m λU=>U.o (Iw di .tt) λU=>?_;refine cF λI a w U=>?_;refine cz (λah=>?_) λah=>?_
 .refine aG λI a w U=>?_;refine U.o (Co di .tt) λU=>U.o (aaf di bL .tt .tt rfl) λU=>U.m λU=>?_;refine U.aae (fQ:=n) di oG bL rfl aP .tt .tt om om om om rfl λ{gb yq a w} lY qv U=>?_;refine U.m λU=>U.o (Iw di .tt) λU=>?_;refine U.o (tH (hi:=0) di bL .tt .tt rfl om om) λU=>?_;have U:=U.tF (sz:=7) (l:=[]) (cap:=yq) 0 rfl bn (λr hr=>by simp at hr) bn om qv bn;refine aR λI a w U=>?_;exact U.yb (r:=4) 0 rfl rfl rfl rfl
 refine aF λI a w U=>?_;obtain rfl:n=0:=by omega
 have U:=U.ik (sz:=7) 54;exact U.yb (r:=4) 0 rfl rfl rfl rfl
def Hr:∀(ls:List (List aA)) (k:Nat),oV (ls.take k)<=oV ls
 |[],k=>by simp[oV]
 |x::ls,0=>by simp[oV]
 |x::ls,k+1=>by have:=Hr ls k;simp[oV] at*;omega
def ajO (ls:List (List aA)) (h:oV ls<=1048576):
 Fn prog 183 [AV.rows 1 (ls.map LC)] (bU ls.flatten):=by
 refine Fn.go 36 func183 ntmps183 (λW I a U=>?_);have hle:=U.eE (t:=0) rfl;refine cF λI a w U=>?_;refine St.lo (σ:=Nat) (3::(5::(run 12 11 []))) ⟨λk=>[(11,AV.int k),(3,AV.int (oV (ls.take k):Nat))],λk=>[],λk=>k<=ls.length⟩ (λk=>ls.length-k) 0 U ?aI ?bF;case aI=>exact Nat.zero_le _
 rintro k I a w ao U;have hk:k<=ls.length:=ao;refine aB λI a w U=>?_;refine cz (λae=>?_) λae=>?_
 .refine dZ λI a w U=>?_;refine U.o (lW .tt .tt (λ_=>by have:=KN ae;have:=Hr ls (k+1);omega)) λU=>?_;refine aR λI a w U=>?_;refine U.cd (λah=>?_) λah=>?_
  .exfalso;simp only[B] at ah;omega;skip
  refine aF λI a w U=>?_;refine U.again (k+1) ?hO ?hP dR ?hZ (by repeat(first|exact Env.le_rfl|refine Env.iy rfl ?_));case hO=>omega
  case hP=>exact ae
  case hZ=>exact(Env.dA rfl dR (Env.dA rfl (by exact congrArg AV.int (by rw[KN ae];push_cast;rfl)) Env.le_nil))
 refine zt ?_;refine U.m λU=>?_;refine U.pG (ajN (oV (ls.take k)) (by have:=Hr ls k;omega)) (ax .c (ax .tt aH)) rfl λI oh a w U=>?_;refine aX λI a w U=>?_;refine St.lo (σ:=Nat×Value) (6::(8::(run 8 27 []))) ⟨λ⟨k2,v⟩=>[(27,AV.int k2),(6,AV.val v)],λ⟨k2,v⟩=>[Own.row v 54 7 ((ls.take k2).flatten.map aA.cells)],λ⟨k2,v⟩=>k2<=ls.length⟩ (λ⟨k2,v⟩=>ls.length-k2) (0,oh) U ?eo ?jK;case eo=>exact Nat.zero_le _
 rintro⟨k2,v⟩ I a w ao U;have eR:k2<=ls.length:=ao;dsimp only at U;refine aB λI a w U=>?_;refine cz (λaq=>?_) λaq=>?_
 .refine bY λI a w U=>?_;refine U.append 0 rfl di bL rfl .tt .r rfl (by have h1:=KN aq;have h2:=Hr ls (k2+1);have h3:=adv (ls.take k2);simp only[List.length_map];omega) λv33 a w U=>?_;rw[<-List.map_append,<-aeJ aq] at U;refine aR λI a w U=>?_;exact U.ag (k2+1,v33) (aq)
 refine zt ?_;refine aF λI a w U=>?_;rw[List.take_of_length_le om] at U;obtain⟨I,U⟩:=U.fr 0 2;refine U.rt ?_;rfl
def WE (u v:de):
 Fn prog 254 [u.av,v.av] (AV.bool (vB u v)):=by
 refine Fn.go 20 func254 ntmps254 (λW I a U=>?_);refine Q2 λI a w U=>?_;refine U.rt ?_;rfl
def Bw (p:ve) (v:aA):Bool:=(v.aj==p.1.1)&&(v.call==p.1.2)
end Go.Proofs.YtldbakcpcfdlaaaGreat
