/- Part 50: contracts of functions, plain facts. -/
import Derived.Test.YtdanidpleofjgaaGreatP46
set_option linter.all false
set_option maxRecDepth 100000
set_option maxHeartbeats 4000000
namespace Go.Proofs.YtdanidpleofjgaaGreat
open Go Go.RowKit Tryz
attribute [local irreducible] wpList Code.wp Ok
def La {w:aj} (h:ez w=true) {k:Nat} (hk:k<4):ij (ab w.aA k)=true/\w.aA.length=4/\(ab w.aA k).site=k:=by
 simp only[ez,Bool.and_eq_true] at h;have hl:w.aA.length=4:=by
  have:=h.1.1.1.1;simp[pG] at this;omega
 have:=(jm.1 h.1.1.1.2) k om;unfold rU at this;rw[Bool.and_eq_true] at this;exact⟨this.2,hl,by simpa using this.1⟩
def ag3 {s:Server} (h:ij s=true):tZ s=true:=by
 simp only[ij,Bool.and_eq_true] at h;exact h.1.1.1.1
def F0 (x:aj) (hf:x.Fit) (hl:x.calls.length<=1048576):
 Fn prog 21 [x.av] (AV.bool (ez x)):=by
 refine Fn.go 62 func21 ntmps21 (λW I a U=>?_);have lens:x.aA.length<=9223372036854775807/\x.al.length<=9223372036854775807/\x.calls.length<=9223372036854775807/\x.seen.length<=9223372036854775807:=⟨U.ln 0 1,U.ln 0 2,U.ln 0 3,U.ln 0 4⟩;refine bB λI a w U=>?_;refine U.o (.cl (jq ..)) λU=>?_;refine XJ λI a w U=>?_;refine U.cd (λae=>?_) λae=>?_
 .replace ae:pG x=false:=by unfold pG;rw[ae];rfl
  refine bh ?_;exact bP (by unfold ez;rw[ae];rfl)
 replace ae:pG x=true:=by unfold pG;rw[ae];rfl
 refine aZ λI a w U=>?_;refine St.lo (σ:=Nat) (run 3 2 (run 15 30 [])) ⟨λk=>[(30,AV.int k)],λk=>[],λk=>k<=x.aA.length/\∀i,i<k->(rU x) i=true⟩ (λk=>x.aA.length-k) 0 U ?aJ ?bF;case aJ=>exact⟨Nat.zero_le _,λi hi=>by omega⟩
 rintro k I a w an U;obtain⟨pH,aT⟩:=an;refine aB λI a w U=>?_;refine cz (λah=>?_) λah=>?_
 .refine bm λI a w U=>?_;refine U.alloc rfl cv dN λb4 I a w U=>?_;refine aF λI a w U=>?_;obtain⟨I,U⟩:=U.fb 0 4;refine ee λI a w U=>?_;refine U.q .F (.cl (xM ..)) λU=>?_;refine aF λI a w U=>?_;refine U.cd (λar=>?_) λar=>?_
  .rw[Kx] at ar;replace ar:=nt ar;refine bh ?_;exact bP (by unfold ez;rw[fY (f:=rU x) ah ar];simp)
  rw[Kx] at ar;replace ar:=nf ar;refine aF λI a w U=>?_;have U:=U.drop 0;exact U.ag (k+1) (⟨by omega,gI aT ar⟩)
 refine zt ?_;refine aG λI a w U=>?_;refine U.o (.cl (af5 x.al w8 _ (λm hm=>Fn.Dy (af6 m (hf.1 m hm).1 (hf.1 m hm).2)))) λU=>?_;refine bB λI a w U=>?_;refine U.q .T (.cl (afv x.seen w9 _ (λm _=>Fn.Dy (afx m)))) λU=>?_;refine gT λI a w U=>?_;refine U.q .T (bT (SR x.calls x.time (by have:=Zk ae;omega) hl hf.2) (az .ag (az .ag aI))) λU=>?_;refine dG ?_;exact bP (by unfold ez;rw[ae,fP aT om];rfl)
def CL {x:aj} (an:ez x=true) {i:Nat} (hi:i<4):cg (ab x.aA i).ai=true/\cg (ab x.aA i).waits=true/\fZ (ab x.aA i).aD=true/\fZ (ab x.aA i).aV=true/\(ab x.aA i).aw.length=3:=by
 have h:=La an hi;have h2:=Er (ag3 h.1);exact⟨h2.2.1,h2.2.2.1,h2.2.2.2.1,h2.2.2.2.2.1,h2.1⟩
def Lb (x:aj) (s:Int) (an:ez x=true) (wS:0<=s/\s<=1):
 Fn prog 67 [x.av,AV.int s] (cn (cN x s)):=by
 refine Fn.go 39 func67 ntmps67 (λW I a U=>?_);have h4:=(La an (k:=0) om).2.1;obtain⟨ca,-⟩:=CL an (i:=(2*s).toNat) om;obtain⟨cb,-⟩:=CL an (i:=(2*s+1).toNat) om;have la:=g0 ca;have lb:=g0 cb;refine cj λI a w U=>?_;refine U.o (lP .c .tt (λ_=>by omega)) λU=>?_;refine bm λI a w U=>?_;refine U.o (bT (lf.fn (vG (ab x.aA (2*s).toNat).ai om (λv hv=>by have:=pZ ca v hv;omega))) (az .r aI)) λU=>?_;refine bB λI a w U=>?_;refine U.o (lP .c .tt (λ_=>by omega)) λU=>?_;refine iP λI a w U=>?_;refine St.lo (σ:=Nat) (5::(7::(run 13 25 []))) ⟨λk=>[(25,AV.int k),(5,cn (((ab x.aA (2*s+1).toNat).ai.take k).foldl eY (ab x.aA (2*s).toNat).ai))],λk=>[],λk=>k<=(ab x.aA (2*s+1).toNat).ai.length⟩ (λk=>(ab x.aA (2*s+1).toNat).ai.length-k) 0 U ?aJ ?bF;case aJ=>exact Nat.zero_le _
 rintro k I a w an U;have hk:k<=(ab x.aA (2*s+1).toNat).ai.length:=an;refine aB λI a w U=>?_;refine cz (λae=>?_) λae=>?_
 .refine aG λI a w U=>?_;refine U.alloc rfl bQ dO λb7 I a w U=>?_;refine aB λI a w U=>?_;obtain⟨I,U⟩:=U.fb 0 7;refine aG λI a w U=>?_;refine U.o (.c1 (oa ..)) λU=>?_;refine U.o (.cl (rF ..)) λU=>?_;refine aB λI a w U=>?_;refine cz (λah=>?_) λah=>?_
  .refine aG λI a w U=>?_;refine U.o (bT (E3 (((ab x.aA (2*s+1).toNat).ai.take k).foldl eY (ab x.aA (2*s).toNat).ai) (ab (ab x.aA (2*s+1).toNat).ai k) (by have:=BI ((ab x.aA (2*s+1).toNat).ai.take k) (ab x.aA (2*s).toNat).ai;simp at this;omega) (λv hv=>by have:=P5 (λv hv=>pZ cb v (List.mem_of_mem_take hv)) (pZ ca) v hv;omega) (by have:=pZ cb _ (bf ae);omega)) (az .r (az (.t rfl) aI))) λU=>?_;refine aR λI a w U=>?_;have U:=U.drop 0;refine U.again (k+1) ?iG ?iH eA ?iI (by repeat(first|exact Env.le_rfl|refine Env.ja rfl ?_));case iG=>omega
   case iH=>exact ae
   case iI=>exact(Env.dK rfl eA (Env.dK rfl (by first|exact congrArg cn (by rw[BJ ae,eY,if_pos ah])|exact congrArg cn (by rw[BJ ae,eY,if_neg om])) Env.le_nil))
  refine aF λI a w U=>?_;have U:=U.drop 0;refine U.again (k+1) ?nC ?nD eA ?nE (by repeat(first|exact Env.le_rfl|refine Env.ja rfl ?_));case nC=>omega
  case nD=>exact ae
  case nE=>exact(Env.dK rfl eA (Env.dK rfl (by first|exact congrArg cn (by rw[BJ ae,eY,if_pos ah])|exact congrArg cn (by rw[BJ ae,eY,if_neg om])) Env.le_nil))
 refine zt ?_;refine dG ?_;exact congrArg cn (by rw[List.take_of_length_le om];rfl)
def Lc {w:aj} (h:ez w=true) (e:Ev):ez (cW w e).1=true:=by
 unfold cW;rw[if_pos h];exact zZ h e
def T8:
 Fn prog 24 [] (dA.av):=by
 refine Fn.go 27 func24 ntmps24 (λW I a U=>?_);refine sr<|U.alloc rfl dM ei λb0 I a w U=>?_;refine zt ?_;refine U.o (.bd yK bc.nil) λU=>?_;refine U.alloc rfl dM yK λb1 I a w U=>?_;refine aB λI a w U=>?_;have U:=U.hP (sz:=7) 43;have U:=U.hP (sz:=1) 41;refine aB λI a w U=>?_;refine St.lo (σ:=Nat×Value) (2::(run 11 5 [])) ⟨λ⟨k,p⟩=>[(2,AV.int k)],λ⟨k,p⟩=>[Own.box b0 28 [AV.val (.int .i64 0),AV.rows 7 [],AV.rows 15 [],AV.rows 13 [],AV.rows 1 []],Own.box b1 28 [AV.int 0,AV.val p,AV.val (.slice none 0 0),AV.val (.slice none 0 0),AV.val (.slice none 0 0)],Own.row p 43 7 ((yW k).map Server.cells),Own.row (.slice none 0 0) 41 1 []],λ⟨k,p⟩=>k<=4⟩ (λ⟨k,p⟩=>4-k) (0,.slice none 0 0) U ?aJ ?bF;case aJ=>exact Nat.zero_le _
 rintro⟨k,p⟩ I a w an U;have hk:k<=4:=an;dsimp only at U;refine aF λI a w U=>?_;refine cz (λae=>?_) λae=>?_
 .refine zt ?_;refine U.dt 5 ?_;simp only[TD];refine dD ?_;refine .o (bT (afz k om) (az (.t rfl) aI)) ?_;refine .o (.li [(xa k).cells] DT (.u .nil)) ?_;refine .nil ?_;intro I a w U;refine U.append 2 rfl tL cv rfl .tt .r rfl (by rw[List.length_map,Io];simp;omega) λmC a w U=>?_;refine U.o .fv λU=>?_;try have Ro:=U.ff 2 rfl
  refine aB λI a w U=>?_;rw[cF] at U;refine aR λI a w U=>?_;exact U.ag (k+1,mC) (by show k+1<=4;omega)
 refine zt ?_;refine aB λI a w U=>?_;refine St.lo (σ:=Nat×Value) (3::(run 10 16 [])) ⟨λ⟨j,r⟩=>[(3,AV.int j)],λ⟨j,r⟩=>[Own.box b0 28 [AV.val (.int .i64 0),AV.rows 7 [],AV.rows 15 [],AV.rows 13 [],AV.rows 1 []],Own.box b1 28 [AV.int 0,AV.val p,AV.val (.slice none 0 0),AV.val (.slice none 0 0),AV.val r],Own.row p 43 7 ((yW k).map Server.cells),Own.row r 41 1 ((Ej j).map fX)],λ⟨j,r⟩=>j<=2⟩ (λ⟨j,r⟩=>2-j) (0,.slice none 0 0) U ?eF ?jS;case eF=>exact Nat.zero_le _
 rintro⟨j,r⟩ I a w an U;have hj:j<=2:=an;dsimp only at U;refine aF λI a w U=>?_;refine cz (λah=>?_) λah=>?_
 .refine aG λI a w U=>?_;refine U.l0 λb22 I a w U=>?_;obtain⟨I,U⟩:=U.fr 4 22;refine U.o (.li [fX []] HY (.v .nil)) λU=>?_;refine U.append 3 rfl Br tK rfl .tt .r rfl (by rw[List.length_map,PL];simp;omega) λB3 a w U=>?_;rw[cF] at U;refine U.o .fv λU=>?_;try have acL:=U.ff 3 rfl
  refine aZ λI a w U=>?_;have U:=U.drop 4;exact U.ag (j+1,B3) (by show j+1<=2;omega)
 refine wp_exit<|cy<|cy<|fk<|bj<|wp_seq ?_;have KL:k=4:=by omega
 have nL:j=2:=by omega
 subst KL;subst nL;obtain⟨I,U⟩:=U.fu 2 1 1;obtain⟨I,U⟩:=U.fu 3 4 1;have U:=U.ni (q:=2) 1 rfl rfl (fB 15 _);have U:=U.ni (q:=3) 1 rfl rfl (fB 13 _);refine aF λI a w U=>?_;refine U.ret rfl (.cons (.sx 0) aW.nil) ?_;rfl
def Ld (l:List Ev) (k:Nat):ez (wK l k)=true:=by
 have key:∀(m:List Ev) (x:aj),ez x=true->ez (m.foldl (λw e=>(cW w e).1) x)=true:=by
  intro m;induction m with
  |nil=>exactλx h=>h
  |cons e r ih=>
   intro x h
   rw[List.foldl_cons]
   exact ih _ (by unfold cW;rw[if_pos h];exact zZ h e)
 exact key _ _ zU
def ag4 {l:List Ev} {k:Nat} (h:k<l.length):(eL (wK l k) (ab l k)).1=wK l (k+1):=by
 have e:∀x e,ez x=true->(eL x e).1=(cW x e).1:=λx e h=>by unfold cW;rw[if_pos h]
 rw[e _ _ (Ld l k)];unfold wK;rw[eT h,List.foldl_append];rfl
def ag5 {w:aj} (h:Inv w) {i:Nat} (hi:i<4) {m:ax} (hm:bI m=true) (g:dX w m) (hk:m.kind=1) (ey:m.to=(i:Int)) (kT:1<=m.call) (ho:fq (sv w i) m.key=true)
 (hn:ki (sv w i) m.key (m.aO-10) m.call=none) (kf:js (fh (sv w i) m)=true) (T9:ix (sv w i).ai (eK (sv w i) m)=true) (hl:(sv w i).aD.length<80):
 ov w i {(sv w i) with ai:=fJ (sv w i).ai (eK (sv w i) m),aD:=dP (sv w i).aD (eK (sv w i) m).aU} (some (eK (sv w i) m))/\(eK (sv w i) m).ao=((i/2:Nat):Int):=by
 obtain⟨q,hq,a1,a2,a3,a4,a5,a6,a7⟩:=g.k1 hk;have U:=h.cQ hi;obtain⟨b1,b2,b3⟩:=Ff U hm kf;have be:=(xx ho).2;have jx:=h.site hi;have F1:q.ao=((i/2:Nat):Int):=by rw[<-a3,ey];omega
 have z6:(eK (sv w i) m).ao=((i/2:Nat):Int):=by show m.aO-10=_;omega
 have sj:bM (eK (sv w i) m).aq.site=((i/2:Nat):Int):=by rw[b1,jx];exact EH hi
 have CM:q.ao.toNat=i/2:=by omega
 refine⟨⟨U.put T9 (by rw[b1]) (by show cM (sv w i) m.key≠0;omega) hl,rfl,rfl,λv hv=>gL.2 (.inr hv),λv hv=>.inr hv,λv hv=>?_,λv hv=>.inl hv,λv hv _=>hv,λd hd=>.inl hd,λd hd=>?_,λd hd=>.inl (vL.2 (.inr hd)),λv e=>?_⟩,z6⟩
 .rcases gL.1 hv with rfl|hv
  .right;refine⟨be,λd hd=>?_,.inr rfl⟩;have bq:=h.ctx q hq;rw[a7,CM] at bq;obtain⟨u,e1,e2,_⟩:=bq d hd;exact⟨u,e2,e1⟩
  exact .inl hv
 .rcases vL.1 hd with rfl|hd
  .exact .inr ⟨_,rfl,rfl⟩
  exact .inl hd
 have e:=Option.some.inj e;subst e;refine⟨gL.2 (.inl rfl),vL.2 (.inl rfl),be,by rw[sj,z6],z6,λσ u hu=>?_,q,hq,by rw[F1,z6],a2,a4,a5,a6,a7⟩;have z7:=h.home σ u hu;constructor
 .intro e;have e1:u.aq=(eK (sv w i) m).aq:=congrArg au.aq e;have e2:u.key=m.key:=congrArg au.key e;have huc:u.ao.toNat=i/2:=by rw[<-z7.1,e1,sj];omega
  have rA:=z7.2;rw[huc] at rA;have:=h.owner hi rA (by rw[e2];exact be);exact pP (vB T9).2.1 u this e
 rintro⟨e1,e2⟩;have yx:u.ao=((i/2:Nat):Int):=e1.trans z6;have rA:=z7.2;rw[show u.ao.toNat=i/2 by omega] at rA;obtain⟨p,hp,c1,c2,c3,c4,_⟩:=h.made σ u hu;have x4:p=q:=Cw h.aK hp hq (by rw[c1,yx,F1]) (by rw[c2,e2];exact a2.symm);rw[x4,a5] at c4;have dq:=h.owner hi rA (by rw[<-c4];exact be);have:=aft hn dq;have h3:u.ao=m.aO-10:=e1;have h4:u.call=m.call:=e2;have h5:bM u.aq.site=bM (sv w i).site:=by rw[z7.1,yx,jx,EH hi]
 unfold oV at this;rw[h3,h4,h5,<-c4] at this;simp at this
def ag7 {w:aj} (h:Inv w) {i:Nat} (hi:i<4) {m:ax} (hm:bI m=true) (g:dX w m) (hk:m.kind=1) (ey:m.to=(i:Int)):ik w i (fT (sv w i) m):=by
 obtain⟨q,hq,a1,a2,a3,a4,a5,a6,a7⟩:=g.k1 hk;have F1:q.ao=((i/2:Nat):Int):=by rw[<-a3,ey];omega
 have Ua:(m.aO-10).toNat=i/2:=by omega
 unfold fT;split
 .rename_i hc;simp only[Bool.and_eq_true,decide_eq_true_eq] at hc;split
  .rename_i v hv;obtain⟨c1,c2,c3,c4,c5⟩:=Jo hv;refine ik.same h hi λx hx=>?_;obtain rfl:x=_:=by simpa using hx
   refine Tp rfl ⟨v,?_,c3,c4,c2,rfl⟩;show bn w (m.aO-10).toNat v;rw[Ua];exact bn.here hi c1
  rename_i hn;split
  .rename_i eH;simp only[Bool.and_eq_true,decide_eq_true_eq] at eH;obtain⟨gr,z6⟩:=ag5 h hi hm g hk ey hc.1.2 hc.2 hn eH.1.1 eH.1.2 eH.2;refine ik.settle h hi (gr.inv h hi) (gr.ext h hi) λx hx y hy=>?_;obtain rfl:x=_:=by simpa using hx
   refine Tp rfl ⟨eK (sv w i) m,hy.dY ?_,rfl,rfl,rfl,rfl⟩;show bn _ (m.aO-10).toNat _;rw[Ua];exact⟨i,hi,rfl,by rw[ot h.aK hi];exact gL.2 (.inl rfl)⟩
  exact ik.same h hi λx hx=>by simp at hx
 exact ik.same h hi λx hx=>by simp at hx
def ag8 {w:aj} (h:Inv w) {i:Nat} (hi:i<4) {m:ax} (hm:bI m=true) (g:dX w m) (hk:m.kind=3) (ey:m.to=(i:Int)):∀x∈gN (sv w i) m,dX w x:=by
 obtain⟨q,hq,a1,a2,a3⟩:=g.k3 hk;have F1:q.ao=((i/2:Nat):Int):=by rw[<-a3,ey];omega
 have CM:q.ao.toNat=i/2:=by omega
 have bq:=h.ctx q hq;rw[CM] at bq;have U:=h.cQ hi;unfold gN;split
 .rename_i hc;simp only[Bool.and_eq_true,decide_eq_true_eq] at hc;have be:=(xx hc.2).2;have eG:∀d∈q.ctx,d.key=m.key->∃u∈(sv w i).ai,u.aU=d:=λd hd e=>by
   obtain⟨u,e1,e2,_⟩:=bq d hd;exact⟨u,h.owner hi e1 (by rw[show u.key=d.key from congrArg au.key e2,e];exact be),e2⟩
  split
  .rename_i hn;intro x hx;obtain rfl:x=_:=by simpa using hx
   refine Tq rfl ⟨q,hq,a1,a2,λhy=>?_,λhy=>⟨hn,?_⟩⟩
   .obtain⟨v,hv⟩:=Option.isSome_iff_exists.1 hy;have jf:=rv hv;refine⟨v,by show(dV (sv w i).ai m.key).toList=[v];rw[hv];rfl,jf.2,by rw[CM];exact bn.here hi jf.1,λ_=>?_,λe=>absurd (hn.symm.trans e) aN⟩;rcases FI (l:=q.ctx) (key:=m.key) with e|e
    .show bV v.aq (bN q.ctx m.key)=false;rw[e];exact S4 (fi U.ai v jf.1)
    obtain⟨u,hu,e2⟩:=eG _ e rfl;have h1:=aaz (vZ U.ai) hv hu (congrArg au.key e2);have e3:u.aq=bN q.ctx m.key:=congrArg au.aq e2;show bV v.aq (bN q.ctx m.key)=false;rw[<-e3];exact h1
   have kf:dV (sv w i).ai m.key=none:=by
    cases ht:dV (sv w i).ai m.key with
    |none=>rfl
    |some v=>have:(dV (sv w i).ai m.key).isSome=false:=hy;rw[ht] at this;cases this
   rcases FI (l:=q.ctx) (key:=m.key) with e|e
   .exact e
   obtain⟨u,hu,e2⟩:=eG _ e rfl;exact absurd (congrArg au.key e2) (aaA kf hu)
  rename_i hn;split
  .rename_i v hv;intro x hx;obtain rfl:x=_:=by simpa using hx
   have jf:=xK hv;refine Tq rfl ⟨q,hq,a1,a2,λ_=>⟨v,rfl,congrArg au.key jf.2,by rw[CM];exact bn.here hi jf.1,λe=>absurd e hn,λ_=>congrArg au.aq jf.2⟩,λe=>by cases e⟩
  intro x hx;simp at hx
 intro x hx;simp at hx
def ag9 {w:aj} (h:Inv w) {i:Nat} (hi:i<4) {m:ax} (hm:bI m=true) (g:dX w m) (hk:m.kind=5):ik w i (fL (sv w i) m):=by
 have jx:=h.site hi;unfold fL;split
 .rename_i hr;obtain⟨r1,r2,r3,r4,r5⟩:=BL hr;obtain⟨v,e1,e2,e3⟩:=g.k5 hk;have ev:ab m.ai 0=v:=by rw[e1];rfl
  obtain⟨n1,n2,n3,n4⟩:=vy r1;have CG:(m.aO/2).toNat=1-i/2:=by
   rw[n2,jx,EH hi] at r2;omega
  rw[CG] at e2;dsimp only;rw[ev] at r4 r5⊢;have be:=(xx r4).2;have aha:∀y,mu y (i/2) v->dX y (l8 (sv w i) m v):=λy hc=>Tr rfl ⟨v,rfl,by
   show mu y ((sv w i).site/2).toNat v;rw[jx,show((i:Int)/2).toNat=i/2 by omega];exact hc⟩
  split
  .rename_i hn;split
   .rename_i hc;have gr:ov w i {(sv w i) with waits:=fJ (sv w i).waits v} none:=by
     refine⟨(h.cQ hi).wait hc hn.1 r5 om,rfl,rfl,λu hu=>hu,λu hu=>.inr (gL.2 (.inr hu)),λu hu=>.inl hu,λu hu=>?_,λu hu _=>gL.2 (.inr hu),λd hd=>.inl hd,λd hd=>.inl hd,λd hd=>.inl hd,λu e=>by cases e⟩;rcases gL.1 hu with rfl|hu
     .exact .inr ⟨be,e2⟩
     exact .inl hu
    refine ik.settle h hi (gr.inv h hi) (gr.ext h hi) λx hx y hy=>?_;obtain rfl:x=_:=by simpa using hx
    exact aha y (hy.cont ⟨i,hi,rfl,.inr (by rw[ot h.aK hi];exact gL.2 (.inl rfl))⟩)
   exact ik.same h hi λx hx=>by simp at hx
  rename_i hn;obtain⟨a,b⟩:=TU h hi;refine⟨a,b,λx hx=>?_⟩;obtain rfl:x=_:=by simpa using hx
  have hp:0<=placeOf (sv w i).ai v.aU\/0<=placeOf (sv w i).waits v.aU:=by omega
  have Tg:∃u:aE,u.aU=v.aU/\mu w (i/2) u:=by
   rcases hp with hp|hp
   .obtain⟨u,hu,e⟩:=oW.1 hp;exact⟨u,e,i,hi,rfl,.inl hu⟩
   obtain⟨u,hu,e⟩:=oW.1 hp;exact⟨u,e,i,hi,rfl,.inr hu⟩
  obtain⟨u,e4,e5⟩:=Tg;refine Tr rfl ⟨u,e4,b.cont ?_⟩;show mu w ((sv w i).site/2).toNat u;rw[jx,show((i:Int)/2).toNat=i/2 by omega];exact e5
 exact ik.same h hi λx hx=>by simp at hx
def ahb {w:aj} (h:Inv w) {i:Nat} (hi:i<4) (m:ax):∀x∈kK (sv w i) m,dX w x:=by
 have jx:=h.site hi;unfold kK;split
 .rename_i hc;rw[Bool.and_eq_true] at hc;intro x hx;obtain rfl:x=_:=by simpa using hx
  obtain⟨v,hv⟩:=Option.isSome_iff_exists.1 hc.1;have jf:=xK hv;refine afG rfl ⟨v,jf.2,?_⟩;show bn w ((sv w i).site/2).toNat v;rw[jx,show((i:Int)/2).toNat=i/2 by omega];exact bn.here hi jf.1
 intro x hx;simp at hx
def uF {w:aj} (h:Inv w) {i:Nat} (hi:i<4) {m:ax} (hf:m.aO=eX (sv w i).site):m.aO.toNat=bL i/\(m.aO/2).toNat=i/2:=by
 rw[h.site hi,x3] at hf;have:=nv i;omega
def ahc {w:aj} (h:Inv w) {i:Nat} (hi:i<4) {m:ax} (hm:bI m=true) (g:dX w m) (hk:m.kind=8) (hu:(sv w i).up=true):ik w i (fK (sv w i) m,[]):=by
 unfold fK;split
 .rename_i hc;simp only[Bool.and_eq_true,decide_eq_true_eq,beq_iff_eq] at hc;obtain⟨v,hv,hd⟩:=Cc.1 hc.1.2;obtain⟨u,e1,e2⟩:=g.k8 hk;rw[(uF h hi hc.1.1).2] at e2;have gr:ov w i {(sv w i) with aV:=dP (sv w i).aV ⟨m.key,m.aq⟩} none:=by
   refine⟨(h.cQ hi).R9 (BC (iW (fi (h.cQ hi).waits v hv)).2.2 _ hd) hc.2 hu,rfl,rfl,λu hu=>hu,λu hu=>.inr hu,λu hu=>.inl hu,λu hu=>.inl hu,λu hu _=>hu,λd hd=>?_,λd hd=>.inl hd,λd hd=>.inl hd,λu e=>by cases e⟩;rcases vL.1 hd with rfl|hd
   .exact .inr ⟨u,e1,e2⟩
   exact .inl hd
  exact ik.settle h hi (gr.inv h hi) (gr.ext h hi) λx hx=>by simp at hx
 exact ik.same h hi λx hx=>by simp at hx
def Ub {w y:aj} (h:Inv w) {i:Nat} (hi:i<4) {m:ax} (he:m.ba<=ep y i m.slot.toNat):dX y (mV (sv w i) m):=by
 have jx:=h.site hi;refine afI rfl ?_;show(sv w i).site.toNat<4/\m.ba<=ep y (sv w i).site.toNat m.slot.toNat;rw[jx,Int.toNat_natCast];exact⟨hi,he⟩
def Le {w:aj} (h:Inv w) {σ:Nat}:∀{l:List Answer} {D:List au},mZ w σ D->bU D=true->(∀a∈l,dT a=true)->(∀a∈l,a.yes=true->bn w σ a.bl)->mZ w σ (l.foldl nH D)
 |[],_,hc,_,_,_=>hc
 |a::r,D,hc,hD,hg,hv=>by
  have pw:∀x∈r,dT x=true:=λx hx=>hg x (by simp[hx]);have Uc:∀x∈r,x.yes=true->bn w σ x.bl:=λx hx=>hv x (by simp[hx]);have ha:=hg a bk;rw[List.foldl_cons];cases hy:a.yes
  .have e:nH D a=D:=by unfold nH;rw[hy];simp
   rw[e];exact Le h hc hD pw Uc
  have e:nH D a=gq (iV D a.bl.aQ) a.bl.aU:=by unfold nH;rw[hy];simp
  have z8:=hv a bk hy;have uV:=sX ha;have hj:bU (iV D a.bl.aQ)=true:=xD hD λd hd=>pK uV hd;have be:=(iW (rm ha hy).1).2.1;rw[e];exact Le h (Ts (afJ hc (TV h z8) hD uV) hj z8 be (Tb hD uV)) (zw hj (zx ha hy).1) pw Uc
def Inv.begin {w:aj} (h:Inv w) {e:Ev} (hc:fF e.ao=true) (hg:bR {w with calls:=w.calls++[iK w e]}):Inv {w with calls:=w.calls++[iK w e]}:=by
 have jZ:=pJ.1 hc;have hx:Ext w {w with calls:=w.calls++[iK w e]}:=⟨λh=>h,λh=>h,λ_ _ _ _=>Int.le_refl _,λq hq=>⟨q,List.mem_append_left _ hq,jR.refl q⟩⟩;have hm:∀q∈w.calls++[iK w e],q∈w.calls\/q=iK w e:=λq hq=>by
  rcases List.mem_append.1 hq with hq|hq
  .exact .inl hq
  exact .inr (by simpa using hq)
 refine⟨hg,h.fits,h.o6,h.rW,h.CE,h.mb,h.aV,h.aD,h.p8,h.home,h.uniq,h.once,λσ v hv=>?_,λq hq=>?_,λq hq=>?_,h.seen,λq hq=>?_,λj hj=>?_,λk hk kf=>h.fresh k hk λq hq=>kf q (List.mem_append_left _ hq),λm hm=>(h.words m hm).ext hx (hg.words m hm) λ_ _ hf=>.inr hf⟩
 .obtain⟨q,hq,c⟩:=h.made σ v hv;exact⟨q,List.mem_append_left _ hq,c⟩
 .rcases hm q hq with hq|rfl
  .exact h.done q hq
  exactλ_ e=>absurd rfl e
 .rcases hm q hq with hq|rfl
  .exact h.ctx q hq
  exact h.seen _ (by show e.ao.toNat<2;omega)
 .rcases hm q hq with hq|rfl
  .exact(h.aC q hq).ext hx
  refine⟨λa ha=>by simp[iK,xf] at ha,λa ha=>by simp[iK,xf] at ha,λ_ hl=>?_⟩;have:(lq e).length=0:=by have:0=(lq e).length:=hl;omega
  simp[lq] at this
 show gO (ab (w.calls++[iK w e]) j)=vn {w with calls:=w.calls++[iK w e]} j;unfold vn;dsimp only;have tC:j<w.calls.length+1:=by have:j<(w.calls++[iK w e]).length:=hj;simpa using this
 rcases Nat.lt_or_ge j w.calls.length with bw|sf
 .rw[Is bw,h.kj j bw,afO bw];unfold vn;by_cases hn:0<=kG w.calls j (ab w.calls j).ao
  .rw[if_pos hn,if_pos hn,if_pos hn,Is (PO hn).1]
  rw[if_neg hn,if_neg hn];by_cases uz:(iK w e).ao=(ab w.calls j).ao
  .rw[if_pos uz,if_pos (Int.natCast_nonneg _),Int.toNat_natCast,show j+1+(w.calls.length-(j+1))=w.calls.length by omega,Pm];show ab w.seen _=ab w.seen e.ao.toNat;rw[<-uz];rfl
  rw[if_neg uz,if_neg om]
 have:j=w.calls.length:=by omega
 subst this;rw[Pm,if_neg]
 .show gO (iK w e)=ab w.seen e.ao.toNat;rfl
 have:=IF (l:=w.calls++[iK w e]) (i:=w.calls.length) (x:=(iK w e).ao) λk h1 h2=>by
  rw[List.length_append,List.length_singleton] at h2;omega
 omega
def Ud {w:aj} {i:Nat} (hi:i<4) {s:Server} (U:sv w i=s) (jx:s.site=(i:Int)) {slot:Int} (h0:0<=slot) (be:(ab s.aw slot.toNat).bD=2):dX w (fS s slot):=by
 refine afH rfl ?_;have e:(fS s slot).aO.toNat=i:=by show s.site.toNat=i;rw[jx];omega
 rw[e,U];exact⟨hi,.inr (afQ h0 be)⟩
def ahd {w:aj} (h:Inv w) {i:Nat} (hi:i<4):∀m∈gy (sv w i),dX w m:=by
 have U:=h.cQ hi;have jx:=h.site hi;intro m hm;unfold gy at hm;split at hm
 .rcases List.mem_append.1 hm with hm|hm
  .rcases List.mem_append.1 hm with hm|hm
   .obtain⟨k,hk,rfl⟩:=List.mem_map.1 hm;have eH:=(List.mem_filter.1 hk).2;exact Ud hi rfl jx (Int.natCast_nonneg _) (by rw[Int.toNat_natCast];simpa using eH)
   obtain⟨ws,h1,h2⟩:=List.mem_flatten.1 hm;obtain⟨d,hd,rfl⟩:=List.mem_map.1 h1;obtain⟨x,hx,e⟩:=U.ly d hd;have hv:∃v,eE (sv w i).ai d=some v:=by
    have:=afw (sv w i).ai d;rw[show decide (0<=placeOf (sv w i).ai d)=true from decide_eq_true (oW.2 ⟨x,hx,e⟩)] at this;exact Option.isSome_iff_exists.1 this
   obtain⟨v,hv⟩:=hv;have jf:=xK hv;have ho:=h.aD i hi d hd;have key:∀t:Int,dX w {bW with kind:=5,aO:=(sv w i).site,to:=t,ai:=(eE (sv w i).ai d).toList}:=λt=>by
    refine agv rfl ⟨v,by show(eE (sv w i).ai d).toList=[v];rw[hv];rfl,?_,?_⟩
    .show bn w ((sv w i).site/2).toNat v;rw[jx,show((i:Int)/2).toNat=i/2 by omega];exact bn.here hi jf.1
    show bM v.aq.site=(sv w i).site/2;rw[show v.aq=d.aq from congrArg au.aq jf.2,ho,jx];omega
   unfold jt at h2;split at h2
   .rcases List.mem_cons.1 h2 with rfl|h2
    .exact key _
    obtain rfl:m=_:=by simpa using h2
    exact key _
   simp at h2
  obtain⟨d,_,rfl⟩:=List.mem_map.1 hm;exact afF rfl
 simp at hm
def runN (w:aj) (l:List Ev):aj:=l.foldl (λw e=>(cW w e).1) w
def Ue {x:aj} (an:ez x=true) {s:Int} (wS:0<=s/\s<=1):(cN x s).length<=160:=by
 have la:=g0 (CL an (i:=(2*s).toNat) om).1;have lb:=g0 (CL an (i:=(2*s+1).toNat) om).1;have:=BI (ab x.aA (2*s+1).toNat).ai (ab x.aA (2*s).toNat).ai;unfold cN;omega
def ahe {w:aj} (h:Inv w) {i:Nat} (hi:i<4) {m:ax} (g:dX w m) {v:aE} (hv:v∈(cK (sv w i) m).1.ai\/v∈(cK (sv w i) m).1.waits):(∃τ,bn w τ v)\/FO (sv w i) m v:=by
 have U:∀v,v∈(sv w i).ai\/v∈(sv w i).waits->∃τ,bn w τ v:=λv hv=>hv.elim (λh1=>⟨_,.here hi h1⟩) λh1=>⟨_,h.mb i hi v h1⟩;have cU:v∈(sv w i).ai\/v∈(sv w i).waits->(∃τ,bn w τ v)\/FO (sv w i) m v:=λhv=>.inl (U v hv);have st:∀{s:Server},(v∈(dB s).ai\/v∈(dB s).waits)->v∈s.ai\/v∈s.waits:=λ{s} hv=>hv.elim (λh1=>FN.1 v h1) λh1=>.inr (FN.2 v h1);unfold cK at hv;split at hv
 .unfold cJ at hv;split at hv
  .rename_i lJ;unfold fT at hv;split at hv
   .rename_i eG;simp only[Bool.and_eq_true] at eG;split at hv
    .exact cU hv
    rename_i jY;split at hv
    .rename_i hc;simp only[Bool.and_eq_true] at hc;rcases st hv with h1|h1
     .rcases gL.1 h1 with rfl|h1
      .exact .inr ⟨lJ,rfl,hc.1.1,jY,eG.2⟩
      exact cU (.inl h1)
     exact cU (.inr h1)
    exact cU hv
   exact cU hv
  split at hv
  .exact cU hv
  split at hv
  .rename_i hk5;unfold fL at hv;split at hv
   .dsimp only at hv;split at hv
    .split at hv
     .rcases st hv with h1|h1
      .exact cU (.inl h1)
      rcases gL.1 h1 with rfl|h1
      .obtain⟨u,e,hu,_⟩:=g.k5 hk5;rw[e];exact .inl ⟨_,hu⟩
      exact cU (.inr h1)
     exact cU hv
    exact cU (st hv)
   exact cU hv
  split at hv
  .unfold iS at hv;split at hv<;>exact cU hv
  split at hv
  .exact cU hv
  split at hv
  .unfold fK at hv;split at hv
   .exact cU (st (s:={sv w i with aV:=dP (sv w i).aV ⟨m.key,m.aq⟩}) hv)
   exact cU hv
  split at hv
  .rename_i x5;unfold fj at hv;split at hv
   .rename_i hc;rw[Bool.and_eq_true,beq_iff_eq] at hc;obtain⟨f1,_⟩:=uF h hi hc.1;split at hv
    .exact cU hv
    rename_i aX;split at hv
    .obtain⟨_,h9⟩:=g.k9 x5;rw[f1,iv] at h9;obtain⟨_,v2,v3,_⟩:=h9.resolve_left aX;have ht:=gX hi;rcases st hv with h1|h1
     .rcases xo h1 with h1|h1
      .exact .inl ⟨_,.here ht ((v2 v).1 h1).1⟩
      exact cU (.inl (List.mem_filter.1 h1).1)
     rcases xo h1 with h1|h1
     .exact .inl ⟨_,h.mb _ ht v ((v3 v).1 h1).1⟩
     exact cU (.inr (List.mem_filter.1 h1).1)
    exact cU hv
   exact cU hv
  split at hv
  .unfold g8 at hv;split at hv
   .rcases st hv with h1|h1
    .exact cU (.inl (List.mem_filter.1 h1).1)
    exact cU (.inr (List.mem_filter.1 h1).1)
   exact cU hv
  exact cU hv
 exact cU hv
def ahg {s:Server}:∀m∈gy s,5<=m.kind:=by
 intro m hm;unfold gy at hm;split at hm
 .rcases List.mem_append.1 hm with hm|hm
  .rcases List.mem_append.1 hm with hm|hm
   .obtain⟨_,_,rfl⟩:=List.mem_map.1 hm;show(5:Int)<=9;decide
   obtain⟨l,h1,h2⟩:=List.mem_flatten.1 hm;obtain⟨d,_,rfl⟩:=List.mem_map.1 h1;unfold jt at h2;split at h2
   .rcases List.mem_cons.1 h2 with rfl|h2
    .exact Int.le_refl _
    obtain rfl:=List.mem_singleton.1 h2;exact Int.le_refl _
   simp at h2
  obtain⟨_,_,rfl⟩:=List.mem_map.1 hm;show(5:Int)<=7;decide
 simp at hm
def Uf {w:aj} (h:Inv w) (hr:Rest w) {i:Nat} (hi:i<4) {v:aE} (hv:v∈(sv w i).ai\/v∈(sv w i).waits):cM (sv w i) v.key=1:=by
 have U:=h.cQ hi;have h3:=rV (iZ U hv);have h0:cM (sv w i) v.key≠0:=hv.elim (U.here v) (U.nZ v);have h2:=hr i hi _ h3;have hg:=rz.1 (U.aK _ (bf (l:=(sv w i).aw) (k:=vk v) (by rw[U.aw];exact h3)));have e:cM (sv w i) v.key=(ab (sv w i).aw (vk v)).bD:=rfl;rw[e] at h0⊢;omega
def Lf {w:aj} (h:Inv w) (hr:Rest w) {σ:Nat} (hσ:σ<2) {k:Nat} (hk:k<3):∃j,j<4/\j/2=σ/\(ab (sv w j).aw k).bD=1:=by
 have hj:2*σ<4:=by omega
 have e:bL (2*σ)=2*σ+1:=by unfold bL;rw[if_pos om]
 rcases IH (h.fits _ hj k hk) (hr _ hj k hk) (hr _ (gX hj) k hk) with h1|h1
 .exact⟨2*σ,hj,by omega,h1.1⟩
 exact⟨bL (2*σ),gX hj,by rw[e];omega,h1.1⟩
def Lg {l:List aE} {d:au} (h:∃x∈l,x.aU=d):∃v,eE l d=some v/\v∈l/\v.aU=d:=by
 have hp:=oW.2 h;have e:eE l d=some (ab l (placeOf l d).toNat):=by unfold eE;rw[if_pos hp]
 exact⟨_,e,xK e⟩
def begun {x:aj} (h:Inv x) {n:Nat} (hn:n<x.calls.length):(ab x.calls n).bH<x.time+1:=by
 have:=(h.aK.call hn).bH;omega
def ahh {q:Call} {m:ax} {t:Int} (h4:m.kind=4) (hy:m.yes=true->m.ai.length=1/\(ab m.ai 0).key=m.key) (U:dS m.aq=true):∃a∈(ig q m t).aC,a.key=m.key:=by
 unfold ig;rw[if_pos ⟨h4,hy⟩];split
 .have hi:∃a∈c8 q.aC (dh m),a.key=m.key:=⟨dh m,pX.2 (.inl rfl),rfl⟩;unfold l9;dsimp only;split
  .exact hi
  unfold kD;split
  .exact hi
  exact hi
 rename_i hp;obtain⟨a,ha,e⟩:=vI.1 (show 0<=cm q m.key by omega);have hh:=tY (q:=q) (key:=m.key) om;split
 .unfold lu;split
  .have U:∃b∈q.aC.set (cm q (dh m).key).toNat (dh m),b.key=m.key:=⟨dh m,IX (by show(cm q m.key).toNat<_;exact hh.1),rfl⟩;dsimp only;split
   .exact U
   exact U
  exact⟨a,ha,e⟩
 exact⟨a,ha,e⟩
def mD (q:Call):Prop:=cD q=true->q.kind≠1/\∀κ∈q.keys,∃a∈q.aC,a.key=κ
def ahi {x:aj} (h:Inv x) {j:Nat} (hj:j<4) {d:au} (hu:∃u,bn x (j/2) u/\u.aU=d) (U:cM (sv x j) d.key=1):∃v,eE (sv x j).ai d=some v/\v.aU=d:=by
 obtain⟨u,hu,e⟩:=hu;have:=h.owner hj hu (by rw[show u.key=d.key from congrArg au.key e];exact U);obtain⟨v,v1,_,v3⟩:=Lg ⟨u,this,e⟩;exact⟨v,v1,v3⟩
structure km (w x:aj):Prop where
 len:x.calls.length=w.calls.length
 same:∀n,n<w.calls.length->jR (ab w.calls n) (ab x.calls n)
 ended:∀n,n<w.calls.length->cD (ab w.calls n)=false->ab x.calls n=ab w.calls n
 filled:∀n,n<w.calls.length->mD (ab w.calls n)->mD (ab x.calls n)
def km.of {w x:aj} (h:x.calls=w.calls):km w x:=by
 refine⟨by rw[h],λn _=>?_,λn _ _=>by rw[h],λn _ hf=>by rw[h];exact hf⟩;rw[h];exact jR.refl _
def km.trans {w x y:aj} (h:km w x) (h':km x y):km w y where
 len:=h'.len.trans h.len
 same:=λn hn=>(h.same n hn).trans (h'.same n (by rw[h.len];exact hn))
 ended:=λn hn he=>by
  have e:=h.ended n hn he;rw[<-e];exact h'.ended n (by rw[h.len];exact hn) (by rw[e];exact he)
 filled:=λn hn hf=>h'.filled n (by rw[h.len];exact hn) (h.filled n hn hf)
def K0 (x:aj) (h:zT x):Fn prog 52 [x.av] x.av:=(TP x h).frozen λr c I a w _ U=>by
 obtain⟨I,U⟩:=U.fa 0 0 1;obtain⟨I,U⟩:=U.fa 1 0 2;obtain⟨I,U⟩:=U.fa 2 0 3;obtain⟨I,U⟩:=U.fa 3 0 4;exact⟨_,_,_,U⟩
def bR.Fit {w:aj} (h:bR w):w.Fit:=⟨λm hm=>(by have:=vx (h.words m hm);unfold kv;omega),λq hq=>by
 obtain⟨i,hi,rfl⟩:=gm hq;have:=pJ.1 (h.call hi).ao;unfold kv;omega⟩
def agE {w:aj} {e:Ev} (h:ez w=true) (ht:¬99999<=w.time) (hd:(bX w e).2=true):bR (bX w e).1:=by
 have:=zZ h e;unfold eL at this;rw[if_pos ⟨by omega,hd⟩] at this;exact(iy.1 this).1
def agF {l:List Ev} {k:Nat} (h:k<l.length):(cW (wK l k) (ab l k)).1=wK l (k+1):=by
 unfold wK;rw[eT h,List.foldl_append];rfl
def z0 (x:aj) (h:zT x):
 Fn prog 20 [x.av,x.av] (AV.bool true):=by
 refine Fn.go 105 func20 ntmps20 (λW I a U=>?_);obtain⟨⟨h1,h2⟩,⟨h3,h4⟩,⟨h5,h6⟩,h7,h8⟩:=h;refine HU λI a w U=>?_;refine mn λI a w U=>?_;refine U.q .F (.cl (afY ..)) λU=>?_;refine aF λI a w U=>?_;refine U.cd (λae=>?_) λae=>?_
 .exfalso;simp at ae;skip
 refine aB λI a w U=>?_;refine St.lo (σ:=Nat) (run 2 4 (run 19 48 [])) ⟨λk=>[(5,AV.int k)],λk=>[],λk=>k<=x.aA.length⟩ (λk=>x.aA.length-k) 0 U ?aJ ?bF;case aJ=>exact Nat.zero_le _
 rintro k I a w an U;have hk:k<=x.aA.length:=an;refine cI λI a w U=>?_;refine cz (λah=>?_) λah=>?_
 .refine zt ?_;refine U.dk ?_;refine pC ?_;refine .o (.c2 (afZ (ab x.aA k) (h2 _ (bf ah)).1)) ?_;refine bJ ?_;refine .nil ?_;intro I a w U;refine bj ?_;refine U.cd (λar=>?_) λar=>?_
  .exfalso;simp at ar;skip
  refine aR λI a w U=>?_;exact U.ag (k+1) (ah)
 refine zt ?_;refine aB λI a w U=>?_;refine St.lo (σ:=Nat) (4::(6::(run 19 67 []))) ⟨λk=>[(6,AV.int k)],λk=>[],λk=>k<=x.calls.length⟩ (λk=>x.calls.length-k) 0 U ?eF ?jS;case eF=>exact Nat.zero_le _
 rintro k I a w an U;have hk:k<=x.calls.length:=an;refine cI λI a w U=>?_;refine cz (λaM=>?_) λaM=>?_
 .refine zt ?_;refine U.dk ?_;refine pC ?_;refine .o (.c2 (af1 (ab x.calls k) (h6 _ (bf aM)).1)) ?_;refine bJ ?_;refine .nil ?_;intro I a w U;refine bj ?_;refine U.cd (λaP=>?_) λaP=>?_
  .exfalso;simp at aP;skip
  refine aR λI a w U=>?_;exact U.ag (k+1) (aM)
 refine zt ?_;refine aB λI a w U=>?_;refine St.lo (σ:=Nat) (4::(7::(run 19 86 []))) ⟨λk=>[(7,AV.int k)],λk=>[],λk=>k<=x.seen.length⟩ (λk=>x.seen.length-k) 0 U ?jh ?oY;case jh=>exact Nat.zero_le _
 rintro k I a w an U;have hk:k<=x.seen.length:=an;refine cI λI a w U=>?_;refine cz (λbx=>?_) λbx=>?_
 .refine zt ?_;refine U.dk ?_;refine pC ?_;refine .o (.cl (wb (ab x.seen k))) ?_;refine bJ ?_;refine .nil ?_;intro I a w U;refine bj ?_;refine U.cd (λbt=>?_) λbt=>?_
  .exfalso;simp at bt;skip
  refine aR λI a w U=>?_;exact U.ag (k+1) (bx)
 refine zt ?_;refine bh ?_;rfl
def agG {w:aj} (h:Inv w) {i:Nat} (hi:i<4) {m:ax} (hm:bI m=true) (ha:ep w i m.slot.toNat<m.ba) (hf:xk (sv w (bL i)) m) (hg:bG (iJ (sv w i) m)):
 uC w i (iJ (sv w i) m) m.slot.toNat:=by
 have jK:=pQ hm;have th:=mW hm;obtain⟨f1,f2,f3,f4⟩:=hf;have j8:m.slot.toNat<3:=by omega
 have jO:=gX hi;have hlen:(sv w i).aw.length=3:=(h.cQ hi).aw;have wg:∀j,ab (iJ (sv w i) m).aw j=if j=m.slot.toNat then⟨m.ba,1⟩ else ab (sv w i).aw j:=λj=>eO (by rw[show(dW (sv w i) m.slot).aw=(sv w i).aw from rfl,hlen];exact j8)
 have lD:ab (iJ (sv w i) m).aw m.slot.toNat=⟨m.ba,1⟩:=by rw[wg,if_pos rfl]
 have hv:∀v,v∈(iJ (sv w i) m).ai↔(v∈(sv w i).ai/\cL v.key≠m.slot)\/v∈m.ai:=λv=>
  (FK (s:=sv w i) hm (l:=(dW (sv w i) m.slot).ai) (vs:=m.ai) (λv hv=>(Cu.1 hv).2) (λv hv=>((f2 v).1 hv).2) th.1 v).trans (or_congr Cu Iff.rfl)
 have rX:∀v,v∈(iJ (sv w i) m).waits↔(v∈(sv w i).waits/\cL v.key≠m.slot)\/v∈m.waits:=λv=>
  (FK (s:=sv w i) hm (l:=(dW (sv w i) m.slot).waits) (vs:=m.waits) (λv hv=>(Cv.1 hv).2) (λv hv=>((f3 v).1 hv).2) th.2.1 v).trans (or_congr Cv Iff.rfl)
 have ho:∀d,d∈(iJ (sv w i) m).aD↔(d∈(sv w i).aD/\cL d.key≠m.slot)\/d∈m.aD:=λd=>Ky.trans (or_congr KM Iff.rfl);have uE:behind (sv w i) (sv w (bL i)) m.slot.toNat:=by
  left;rw[f1];exact ha
 have rS:behind (sv w (bL i)) (iJ (sv w i) m) m.slot.toNat:=by
  right;rw[f1,lD];exact⟨rfl,rfl⟩
 have CI:¬behind (iJ (sv w i) m) (sv w (bL i)) m.slot.toNat:=by
  unfold behind;rw[f1,lD];simp
 have K1:¬behind (sv w (bL i)) (sv w i) m.slot.toNat:=by
  have hx:=h.fits i hi _ j8;exact IE hx uE
 have na:∀{v:aE},dL v=true->(vk v=m.slot.toNat↔cL v.key=m.slot):=λhv=>Tn hv jK.1;have rP:∀v∈m.ai,v∈(sv w (bL i)).ai/\cL v.key=m.slot:=λv hv=>(f2 v).1 hv;have Kv:∀v∈m.waits,v∈(sv w (bL i)).waits/\cL v.key=m.slot:=λv hv=>(f3 v).1 hv;have dk:∀{d:au},(cL d.key).toNat≠m.slot.toNat->cL d.key≠m.slot:=λe e2=>e (by rw[e2]);refine⟨hg,rfl,λj hj aX=>by rw[wg,if_neg aX],λv eS aX=>?_,λv eS aX=>?_,λd aX=>?_,λd hd=>hd,?_,?_,λv dZ e=>?_,λv dZ e=>?_,λv dZ e=>.inl ((hv v).2 (.inr ((f2 v).2 ⟨?_,?_⟩))),λv dZ e=>.inl ?_,λhb=>absurd hb CI,λ_ v dZ e=>(hv v).2 (.inr ((f2 v).2 ⟨dZ,?_⟩)),λhb=>absurd hb CI,λ_ v dZ e=>.inr ((rX v).2 (.inr ((f3 v).2 ⟨dZ,?_⟩))),λd hd e=>?_,λ_ v dZ e U=>?_,λhb=>absurd rS hb,λbe=>?_⟩
 .rw[hv];constructor
  .rintro(⟨a,_⟩|a)
   .exact a
   exact absurd ((na eS).2 (rP v a).2) aX
  exactλa=>.inl ⟨a,λe=>aX ((na eS).2 e)⟩
 .rw[rX];constructor
  .rintro(⟨a,_⟩|a)
   .exact a
   exact absurd ((na eS).2 (Kv v a).2) aX
  exactλa=>.inl ⟨a,λe=>aX ((na eS).2 e)⟩
 .rw[ho];constructor
  .rintro(⟨a,_⟩|a)
   .exact a
   exact absurd ((f4 d).1 a).2 (dk aX)
  exactλa=>.inl ⟨a,dk aX⟩
 .rw[lD,f1];simp[lr,sN]
 .rw[lD];exact Int.le_of_lt ha
 .have eS:=iZ hg (.inl dZ);rcases(hv v).1 dZ with⟨_,a⟩|a
  .exact absurd ((na eS).1 e) a
  have:=bn.here jO (rP v a).1;rwa[nv] at this
 .have eS:=iZ hg (.inr dZ);rcases(rX v).1 dZ with⟨_,a⟩|a
  .exact absurd ((na eS).1 e) a
  have:=h.mb _ jO v (Kv v a).1;rwa[nv] at this
 .exact h.o6 i hi v dZ (e▸uE)
 .exact(na (iZ (h.cQ hi) (.inl dZ))).1 e
 .have eS:=iZ (h.cQ hi) (.inr dZ);have e':=(na eS).1 e;rcases h.rW i hi v dZ (e▸uE) with a|a
  .exact .inl ((hv v).2 (.inr ((f2 v).2 ⟨a,e'⟩)))
  exact .inr ((rX v).2 (.inr ((f3 v).2 ⟨a,e'⟩)))
 .exact(na (iZ (h.cQ jO) (.inl dZ))).1 e
 .exact(na (iZ (h.cQ jO) (.inr dZ))).1 e
 .rcases(ho d).1 hd with⟨a,_⟩|a
  .exact h.aD i hi d a
  have:=h.aD _ jO d ((f4 d).1 a).1;rwa[nv] at this
 .have eS:=iZ hg (.inl dZ);rcases(hv v).1 dZ with⟨_,a⟩|a
  .exact absurd ((na eS).1 e) a
  rcases h.p8 _ jO v (rP v a).1 (by rw[nv];exact U) (by rw[iv,e];exact K1) with b|b
  .exact .inl ((ho _).2 (.inr ((f4 _).2 ⟨b,(rP v a).2⟩)))
  rw[nv] at b;exact .inr b
 rw[f1];exact Int.le_of_lt ha
def agH {w:aj} (h:Inv w) {i:Nat} (hi:i<4) {m:ax} (hm:bI m=true) (h2:(ab (sv w i).aw m.slot.toNat).bD=2) (he:(ab (sv w i).aw m.slot.toNat).ba=m.ba) (ht:m.ba<=ep w (bL i) m.slot.toNat):
 uC w i (kg (sv w i) m) m.slot.toNat:=by
 have jK:=pQ hm;have j8:m.slot.toNat<3:=by omega
 have jO:=gX hi;have hlen:(sv w i).aw.length=3:=(h.cQ hi).aw;have wg:∀j,ab (kg (sv w i) m).aw j=if j=m.slot.toNat then⟨m.ba,0⟩ else ab (sv w i).aw j:=λj=>eO (by rw[show(dW (sv w i) m.slot).aw=(sv w i).aw from rfl,hlen];exact j8)
 have lD:ab (kg (sv w i) m).aw m.slot.toNat=⟨m.ba,0⟩:=by rw[wg,if_pos rfl]
 have hg:bG (kg (sv w i) m):=RW (h.cQ hi) hm;have na:∀{v:aE},dL v=true->(vk v=m.slot.toNat↔cL v.key=m.slot):=λhv=>Tn hv jK.1;have hv:∀v,v∈(kg (sv w i) m).ai↔v∈(sv w i).ai/\cL v.key≠m.slot:=λv=>Cu;have rX:∀v,v∈(kg (sv w i) m).waits↔v∈(sv w i).waits/\cL v.key≠m.slot:=λv=>Cv;have ho:∀d,d∈(kg (sv w i) m).aD↔d∈(sv w i).aD/\cL d.key≠m.slot:=λd=>KM;have iO:=h.fits i hi _ j8;have zV:(ab (sv w i).aw m.slot.toNat).ba<=(ab (sv w (bL i)).aw m.slot.toNat).ba:=by rw[he];exact ht
 have uE:behind (sv w i) (sv w (bL i)) m.slot.toNat:=by
  rcases ZV iO with hb|hb
  .exact hb
  unfold behind at hb;omega
 have K1:¬behind (sv w (bL i)) (sv w i) m.slot.toNat:=IE iO uE;have rS:¬behind (sv w (bL i)) (kg (sv w i) m) m.slot.toNat:=by
  unfold behind;rw[lD];show¬((ab (sv w (bL i)).aw m.slot.toNat).ba<m.ba\/(_/\(0:Int)=1));omega
 have K2:∀v∈(kg (sv w i) m).ai,vk v≠m.slot.toNat:=λv dZ e=>((hv v).1 dZ).2 ((na (iZ hg (.inl dZ))).1 e);have TX:∀v∈(kg (sv w i) m).waits,vk v≠m.slot.toNat:=λv dZ e=>((rX v).1 dZ).2 ((na (iZ hg (.inr dZ))).1 e);have dk:∀{d:au},(cL d.key).toNat≠m.slot.toNat->cL d.key≠m.slot:=λe e2=>e (by rw[e2]);refine⟨hg,rfl,λj hj aX=>by rw[wg,if_neg aX],λv eS aX=>(hv v).trans ⟨λa=>a.1,λa=>⟨a,λe=>aX ((na eS).2 e)⟩⟩,λv eS aX=>(rX v).trans ⟨λa=>a.1,λa=>⟨a,λe=>aX ((na eS).2 e)⟩⟩,λd aX=>(ho d).trans ⟨λa=>a.1,λa=>⟨a,dk aX⟩⟩,λd hd=>hd,?_,?_,
  λv dZ e=>absurd e (K2 v dZ),λv dZ e=>absurd e (TX v dZ),λv dZ e=>.inr (h.o6 i hi v dZ (e▸uE)),λv dZ e=>.inr (h.rW i hi v dZ (e▸uE)),λ_ v dZ e=>absurd e (K2 v dZ),λhb=>absurd hb rS,λ_ v dZ e=>absurd e (TX v dZ),λhb=>absurd hb rS,λd hd e=>h.aD i hi d ((ho d).1 hd).1,λ_ v dZ e=>absurd e (K2 v dZ),λ_ v dZ e U=>?_,λ_=>zV⟩
 .rw[lD];unfold lr sN tV at iO⊢;simp only[Bool.or_eq_true,Bool.and_eq_true,beq_iff_eq,bne_iff_ne,decide_eq_true_eq] at iO⊢;simp;omega
 .rw[lD,he];exact Int.le_refl _
 have:=h.p8 _ jO v dZ (by rw[nv];exact U) (by rw[iv,e];exact K1);rwa[nv] at this
def TY {w:aj} (h:Inv w) {i:Nat} (hi:i<4) {slot:Int} (hk:lL (sv w i) slot=true):uC w i (gV (sv w i) slot) slot.toNat:=by
 obtain⟨_,h0,h2,h1,h9⟩:=vq hk;have j8:slot.toNat<3:=by omega
 have jO:=gX hi;have hlen:(sv w i).aw.length=3:=(h.cQ hi).aw;have wg:∀j,ab (gV (sv w i) slot).aw j=if j=slot.toNat then⟨(ab (sv w i).aw slot.toNat).ba+1,2⟩ else ab (sv w i).aw j:=λj=>eO (by rw[hlen];exact j8)
 have lD:ab (gV (sv w i) slot).aw slot.toNat=⟨(ab (sv w i).aw slot.toNat).ba+1,2⟩:=by rw[wg,if_pos rfl]
 have iO:=h.fits i hi _ j8;have NT:=ID iO h1;have uE:¬behind (sv w i) (sv w (bL i)) slot.toNat:=PM iO h1;have rS:behind (sv w (bL i)) (sv w i) slot.toNat:=PN iO h1;have CI:¬behind (gV (sv w i) slot) (sv w (bL i)) slot.toNat:=by
  unfold behind;rw[lD];show¬(_+1<_\/_+1=_/\_);omega
 have agI:behind (sv w (bL i)) (gV (sv w i) slot) slot.toNat:=by
  left;rw[lD];show _<_+1;omega
 refine⟨zL (h.cQ hi) hk,rfl,λj hj aX=>by rw[wg,if_neg aX],λv _ _=>Iff.rfl,λv _ _=>Iff.rfl,λd _=>Iff.rfl,λd hd=>hd,?_,?_,λv hv e=>bn.here hi hv,λv hv e=>h.mb i hi v hv,λv hv e=>.inl hv,λv hv e=>.inl (.inr hv),λhb=>absurd hb CI,λ_ v hv e=>?_,λhb=>absurd hb CI,λ_ v hv e=>?_,λd hd _=>h.aD i hi d hd,λ_ v hv e U=>h.p8 i hi v hv U (e▸uE),λhb=>absurd agI hb,λe=>by omega⟩
 .rw[lD];unfold lr sN tV;simp only[Bool.or_eq_true,Bool.and_eq_true,beq_iff_eq,bne_iff_ne,decide_eq_true_eq];simp;omega
 .rw[lD];show _<=_+1;omega
 .have:=h.o6 _ jO v hv (by rw[iv,e];exact rS);rwa[iv] at this
 have:=h.rW _ jO v hv (by rw[iv,e];exact rS);rwa[iv] at this
def Inv.FZ {w:aj} (h:Inv w) {σ:Nat} {v:aE} (hv:bn w σ v):dL v=true:=by
 obtain⟨i,hi,_,hv⟩:=hv;exact iZ (h.cQ hi) (.inl hv)
def agJ {w:aj} (h:Inv w) {q:Call} (hg:∀a∈q.aC,dT a=true) (hv:∀a∈q.aC,a.yes=true->bn w q.ao.toNat a.bl):
 ∃C:Int->cx,(∀a∈q.aC,∀key,bV (C key) (bN a.bl.aQ key)=false)/\(∀a∈q.aC,bV a.bl.aq (C a.key)=false\/(⟨a.key,C a.key⟩:au)∈kQ q)/\
  ∀d∈kQ q,d.aq=C d.key/\∃u,bn w q.ao.toNat u/\u.aU=d/\∀key,bV (C key) (bN u.aQ key)=false:=by
 refine⟨λkey=>kO q.aC key,λa ha key=>Tt ha key,λa ha=>?_,λd hd=>?_⟩
 .cases hl:bV a.bl.aq (kO q.aC a.key)
  .exact .inl rfl
  right;unfold kQ;refine List.mem_flatten.2 ⟨_,List.mem_map.2 ⟨a,ha,rfl⟩,?_⟩;unfold nV;rw[Th hg,hl];simp
 obtain⟨a,ha,rfl,hl⟩:=Rk hd;rw[Th hg] at hl⊢;refine⟨rfl,?_⟩;have K3:kO q.aC a.key≠gn:=λe=>by
  have K4:bV a.bl.aq (kO q.aC a.key)=true:=hl;rw[e,QS (hg a ha)] at K4;cases K4
 rcases afk (l:=q.aC) (key:=a.key) with e|⟨b,hb,e⟩
 .exact absurd e K3
 have hby:b.yes=true:=by
  cases hy:b.yes
  .exfalso;rw[y7 (hg b hb) hy] at e;exact K3 e.symm
  rfl
 have hvb:=hv b hb hby;rcases FI (l:=b.bl.aQ) (key:=a.key) with e2|e2
 .exact absurd (e.symm.trans e2) K3
 rw[e] at e2;obtain⟨u,h1,h2,h3⟩:=TV h hvb _ e2;exact⟨u,h1,h2,λkey=>D9 (h3 key) (Tt hb key)⟩
def agM {w:aj} (h:Inv w) {q:Call} {t:Int} (hq:dH q t) (g:m9 w q) (hw:cD q=true) {a:Answer} (ha:dT a=true) (gj:ib q.keys a.key=true) (hn:cm q a.key<0)
 (hv:a.yes=true->bn w q.ao.toNat a.bl) (hc:bV a.bl.aq (bN q.ctx a.key)=false):m9 w (l9 q a t):=by
 obtain⟨tb,_⟩:=Fp hq gj hn;have kR:∀x∈c8 q.aC a,x.yes=true->bn w q.ao.toNat x.bl:=λx hx hy=>by
  rcases pX.1 hx with rfl|hx
  .exact hv hy
  exact g.dY x hx hy
 have jZ:∀x∈c8 q.aC a,bV x.bl.aq (bN q.ctx x.key)=false:=λx hx=>by
  rcases pX.1 hx with rfl|hx
  .exact hc
  exact g.ctx x hx
 have nI:∀x∈c8 q.aC a,dT x=true:=λx hx=>by
  rcases pX.1 hx with rfl|hx
  .exact ha
  exact hq.aK x hx
 unfold l9;dsimp only;split
 .rename_i hl;refine⟨kR,jZ,λ_ e=>?_⟩;have e':(c8 q.aC a).length=q.keys.length:=e;have K4:(c8 q.aC a).length<q.keys.length:=hl;omega
 have key:m9 w {q with aC:=c8 q.aC a,aL:=q.aL++kQ {q with aC:=c8 q.aC a}}:=by
  refine⟨kR,jZ,λ_ _=>?_⟩;have:=agJ h (q:={q with aC:=c8 q.aC a}) nI kR;rw[tb,List.nil_append];exact this
 unfold kD;split
 .exact key.of rfl rfl rfl rfl rfl rfl
 exact key
def Inv.K5 {w:aj} (h:Inv w) {i:Nat} (hi:i<w.calls.length) (hw:cD (ab w.calls i)=true) {p:Call} (hp:FV w (ab w.calls i) p) {l:List (List au)} (hl:(p.end_=0/\l=w.seen)\/(p.end_≠0/\l=w.seen.set p.ao.toNat (gO p)))
 (hg:bR {w with calls:=w.calls.set i p,seen:=l}):Inv {w with calls:=w.calls.set i p,seen:=l}:=by
 have K6:=bf hi;obtain⟨s1,s2,s3,s4,s5,s6⟩:=hp.same;have hx:Ext w {w with calls:=w.calls.set i p,seen:=l}:=⟨λh=>h,λh=>h,λ_ _ _ _=>Int.le_refl _,λq hq=>by
  obtain⟨k,hk,rfl⟩:=gm hq;by_cases e:k=i
  .subst e;exact⟨p,IX hi,hp.same⟩
  exact⟨_,Ij hk e,jR.refl _⟩⟩
 have bq:=ou h.aK K6;have jZ:∀q∈w.calls.set i p,q=p\/q∈w.calls:=λq hq=>by
  rcases sJ hq with rfl|⟨k,hk,_,rfl⟩
  .exact .inl rfl
  exact .inr (bf hk)
 refine⟨hg,h.fits,h.o6,h.rW,h.CE,h.mb,h.aV,h.aD,h.p8,h.home,h.uniq,h.once,λσ v hv=>?_,λq hq=>?_,λq hq=>?_,λk hk=>?_,λq hq=>?_,λj hj=>?_,λk hk kf=>?_,λm hm=>(h.words m hm).ext hx (hg.words m hm) λ_ _ hf=>.inr hf⟩
 .obtain⟨q,hq,c1,c2,c3,c4,c5,c6⟩:=h.made σ v hv;obtain⟨r,hr,t1,t2,t3,t4,t5,t6⟩:=hx.calls q hq;exact⟨r,hr,t1.trans c1,t2.trans c2,t3.trans c3,by rw[t4];exact c4,t5.trans c5,t6.trans c6⟩
 .rcases jZ q hq with rfl|hq
  .exact hp.done
  exact h.done q hq
 .rcases jZ q hq with rfl|hq
  .show mZ w q.ao.toNat q.ctx;rw[s1,s6];exact h.ctx _ K6
  exact h.ctx q hq
 .show mZ w k (ab l k);rcases hl with⟨_,rfl⟩|⟨he,rfl⟩
  .exact h.seen k hk
  rw[eO (by rw[h.aK.seen,s1];exact bq.1)];split
  .rename_i e;rw[e];exact hp.kj he
  exact h.seen k hk
 .rcases jZ q hq with rfl|hq
  .exact hp.aC.ext hx
  exact(h.aC q hq).ext hx
 .have tC:j<w.calls.length:=by have:j<(w.calls.set i p).length:=hj;rwa[List.length_set] at this
  have hec:∀k,(ab (w.calls.set i p) k).ao=(ab w.calls k).ao:=λk=>by
   rw[eO hi];split
   .rename_i e;subst e;exact s1
   rfl
  have hex:∀k,(ab (w.calls.set i p) k).ctx=(ab w.calls k).ctx:=λk=>by
   rw[eO hi];split
   .rename_i e;subst e;exact s6
   rfl
  have hn:vn {w with calls:=w.calls.set i p,seen:=l} j=if 0<=kG w.calls j (ab w.calls j).ao then(ab w.calls (j+1+(kG w.calls j (ab w.calls j).ao).toNat)).ctx else ab l (ab w.calls j).ao.toNat:=by
   unfold vn;dsimp only;rw[hec,afM hi s1,hex]
  rw[hn];show gO (ab (w.calls.set i p) j)=_;rw[eO hi];split
  .rename_i e;subst e;rw[if_neg (by have:=IF (l:=w.calls) (i:=j) (x:=(ab w.calls j).ao) λk h1 h2=>Cx h.aK hw h1 h2;omega)];rcases hl with⟨he,rfl⟩|⟨he,rfl⟩
   .have hold:=h.kj j tC;have e0:gO p=p.ctx:=by unfold gO;rw[if_pos he]
    have e1:gO (ab w.calls j)=(ab w.calls j).ctx:=by unfold gO;rw[if_pos (nu hw).1]
    rw[e0,s6,<-e1,hold];unfold vn;rw[if_neg (by have:=IF (l:=w.calls) (i:=j) (x:=(ab w.calls j).ao) λk h1 h2=>Cx h.aK hw h1 h2;omega)]
   rw[eO (by rw[h.aK.seen,s1];exact bq.1),if_pos (by rw[s1])]
  rename_i e;have hold:=h.kj j tC;rw[hold];unfold vn;split
  .rfl
  rename_i hnn;rcases hl with⟨he,rfl⟩|⟨he,rfl⟩
  .rfl
  rw[eO (by rw[h.aK.seen,s1];exact bq.1),if_neg];intro e2;have hcj:=ou h.aK (bf tC);have e3:(ab w.calls j).ao=(ab w.calls i).ao:=by rw[s1] at e2;omega
  rcases Nat.lt_or_gt_of_ne e with bw|bw
  .exact afN om bw hi e3.symm
  exact Cx h.aK hw bw tC e3
 have K7:∀q∈w.calls,q.ao≠(k:Int):=λq hq e=>by
  obtain⟨r,hr,t1,_⟩:=hx.calls q hq;exact kf r hr (t1.trans e)
 show ab l k=[];rcases hl with⟨_,rfl⟩|⟨he,rfl⟩
 .exact h.fresh k hk K7
 rw[eO (by rw[h.aK.seen,s1];exact bq.1),if_neg]
 .exact h.fresh k hk K7
 intro e;have:=K7 _ K6;rw[s1] at e;omega
def agO {w:aj} (h:Inv w) {q:Call} (hq:q∈w.calls):∀m∈ie q,dX w m:=by
 intro m hm;unfold ie at hm;split at hm
 .obtain⟨ws,h1,h2⟩:=List.mem_flatten.1 hm;obtain⟨x,hx,rfl⟩:=List.mem_map.1 h1;have hc:=ou h.aK hq;have ey:m.aO=10+q.ao/\q.num=m.call/\m.to/2=q.ao/\m.kind=x.kind/\m.key=x.key/\m.val=x.val/\m.aQ=x.aQ:=by
   unfold jr at h2;rcases List.mem_cons.1 h2 with rfl|h2
   .exact⟨rfl,rfl,by show 2*q.ao/2=_;omega,rfl,rfl,rfl,rfl⟩
   obtain rfl:m=_:=by simpa using h2
   exact⟨rfl,rfl,by show(2*q.ao+1)/2=_;omega,rfl,rfl,rfl,rfl⟩
  obtain⟨t1,t2,t3,t4,t5,t6,t7⟩:=ey;unfold asks at hx;split at hx
  .rename_i hk;obtain rfl:x=_:=by simpa using hx
   exact afP t4 ⟨q,hq,t1,t2,t3,hk,t5.symm,t6.symm,t7.symm⟩
  rcases List.mem_append.1 hx with hx|hx
  .obtain⟨k,_,rfl⟩:=List.mem_map.1 hx;exact Tv t4 ⟨q,hq,t1,t2,t3⟩
  obtain⟨k,_,rfl⟩:=List.mem_map.1 hx;exact Tv t4 ⟨q,hq,t1,t2,t3⟩
 simp at hm
def TZ {w:aj} (h:Inv w) {i:Nat} (hi:i<4):ov w i (jF (sv w i)) none:=
 ⟨S5 (h.cQ hi),rfl,rfl,λv hv=>hv,λv hv=>.inr hv,λv hv=>.inl hv,λv hv=>.inl hv,λv hv _=>hv,λd hd=>.inl hd,λd hd=>.inl hd,λd hd=>.inl hd,λv e=>by cases e⟩
def T0 {w:aj} (h:Inv w) {i:Nat} (hi:i<4):ov w i (ll (sv w i)) none:=
 ⟨SY (h.cQ hi),rfl,rfl,λv hv=>hv,λv hv=>.inr hv,λv hv=>.inl hv,λv hv=>.inl hv,λv hv _=>hv,λd hd=>absurd hd (by simp[ll]),λd hd=>.inl hd,λd hd=>.inl hd,λv e=>by cases e⟩
def K8:Inv dA:=by
 have h0:∀i,i<4->(sv dA i).ai=[]/\(sv dA i).waits=[]/\(sv dA i).aD=[]/\(sv dA i).aV=[]:=by decide
 have hv:∀σ v,¬bn dA σ v:=λσ v ⟨i,hi,_,h⟩=>by rw[(h0 i hi).1] at h;simp at h
 refine⟨(iy.1 zU).1,by decide,λi hi v h=>?_,λi hi v h=>?_,λi hi v h=>?_,λi hi v h=>?_,λi hi v h=>?_,λi hi v h=>?_,λi hi v h=>?_,λσ v h=>absurd h (hv σ v),λσ _ u _ h=>absurd h (hv σ u),λσ _ u _ h=>absurd h (hv σ u),λσ v h=>absurd h (hv σ v),λq hq=>by simp[dA] at hq,λq hq=>by simp[dA] at hq,?_,λq hq=>by simp[dA] at hq,λi hi=>by simp[dA] at hi,?_,λm hm=>by simp[dA] at hm⟩
 .rw[(h0 i hi).1] at h;simp at h
 .rw[(h0 i hi).2.1] at h;simp at h
 .rw[(h0 i hi).1] at h;simp at h
 .rw[(h0 i hi).2.1] at h;simp at h
 .rw[(h0 i hi).2.2.2] at h;simp at h
 .rw[(h0 i hi).2.2.1] at h;simp at h
 .rw[(h0 i hi).1] at h;simp at h
 .intro k hk;have:ab dA.seen k=[]:=by revert k;decide
  rw[this];intro d hd;simp at hd
 intro k hk _;revert k;decide
def T3:∀{l out:List aE} {v:aE},v∈l->∃x∈l.foldl eY out,x.aU=v.aU
 |[],_,_,h=>by simp at h
 |u::r,out,v,h=>by
  rcases List.mem_cons.1 h with rfl|h
  .have:∃x∈eY out v,x.aU=v.aU:=by
    unfold eY;split
    .exact⟨v,gL.2 (.inl rfl),rfl⟩
    rename_i hp;obtain⟨x,hx,e⟩:=oW.1 (show 0<=placeOf out v.aU by omega);exact⟨x,hx,e⟩
   obtain⟨x,hx,e⟩:=this;exact⟨x,I7 (l:=r) hx,e⟩
  exact T3 (l:=r) h
def nb {w:aj} (h:Inv w) {σ:Nat} (hσ:σ<2) {v:aE}:v∈cN w (σ:Int)↔bn w σ v:=by
 have e0:(2*(σ:Int)).toNat=2*σ:=by omega
 have e1:(2*(σ:Int)+1).toNat=2*σ+1:=by omega
 have he:cN w (σ:Int)=(sv w (2*σ+1)).ai.foldl eY (sv w (2*σ)).ai:=by unfold cN sv;rw[e0,e1]
 rw[he];have fwd:∀{x},x∈(sv w (2*σ+1)).ai.foldl eY (sv w (2*σ)).ai->bn w σ x:=λ{x} hx=>by
  rcases xo hx with hx|hx
  .exact⟨2*σ+1,by omega,by omega,hx⟩
  exact⟨2*σ,by omega,by omega,hx⟩
 refine⟨fwd,λ⟨i,hi,e,hv⟩=>?_⟩;have ji:i=2*σ\/i=2*σ+1:=by omega
 rcases ji with rfl|rfl
 .exact I7 hv
 obtain⟨x,hx,e2⟩:=T3 (out:=(sv w (2*σ)).ai) hv;have:=h.uniq _ _ x v (fwd hx) ⟨_,hi,e,hv⟩ e2;rwa[this] at hx
def tj {w:aj} (h:Inv w) {σ:Nat} (hσ:σ<2):VS (cN w (σ:Int)):=by
 unfold cN;refine KT (vZ ?_);have:(2*(σ:Int)).toNat<4:=by omega
 exact(h.cQ this).ai
def agP {v:aE} (h:dL v=true) {d:au} (hd:d∈v.aQ):d.aq.time<v.aq.time:=by
 simp only[dL,Bool.and_eq_true] at h;have:=h.2;unfold Dx at this;rw[uh (p:=λd:au=>decide (d.aq.time<v.aq.time))] at this;simpa using this d hd
section
variable {P:Program} {H:Type} {enc:TypeId×Value->H} {W:World}
def agQ {t:TypeId} (ht:P.underlying t=some (.int .u8)):Bv enc P W Ip (λ_=>True) t:=λn cs x h=>by
 obtain⟨k,rfl,_,hw⟩:=DataW.trod_int ht h;simp only[Lit.wf,Bool.and_eq_true,decide_eq_true_eq] at hw;have h0:0<=k:=hw.1;have h1:k<=255:=hw.2;refine⟨UInt8.ofNat k.toNat,⟨⟨?_,rfl⟩,trivial⟩,trivial⟩;show Value.int .u8 k=Value.int .u8 ((UInt8.ofNat k.toNat).toNat:Int);rw[UInt8.toNat_ofNat'];congr 1;omega
end
def wv {H:Type} {enc:TypeId×Value->H} {W:World}:Bv enc prog W (λl:List UInt8=>[ia l]) (λl=>∀y∈l,True) 22:=
 Y4 (t:=22) (sz:=1) (cf:=Ip) aS aS aN (λ_=>rfl) (agQ (t:=5) aS)
def agR {w:aj} (h:Inv w) {i:Nat} (hi:i<4) {m:ax} (hm:bI m=true) (he:1<=m.ba) (hf:xk (sv w (bL i)) m) (hb:oT (sv w i) m=true):bG (iJ (sv w i) m):=by
 have U:=h.cQ hi;have ht:=h.cQ (gX hi);have jK:=pQ hm;have th:=mW hm;obtain⟨f1,f2,f3,f4⟩:=hf;unfold oT at hb;simp only[Bool.and_eq_true,decide_eq_true_eq] at hb;obtain⟨⟨b1,b2⟩,b3⟩:=hb;have hlen:(sv w i).aw.length=3:=U.aw;have hv:∀v,v∈(iJ (sv w i) m).ai↔(v∈(sv w i).ai/\cL v.key≠m.slot)\/v∈m.ai:=λv=>
  (FK (s:=sv w i) hm (l:=(dW (sv w i) m.slot).ai) (vs:=m.ai) (λv hv=>(Cu.1 hv).2) (λv hv=>((f2 v).1 hv).2) th.1 v).trans (or_congr Cu Iff.rfl)
 have rX:∀v,v∈(iJ (sv w i) m).waits↔(v∈(sv w i).waits/\cL v.key≠m.slot)\/v∈m.waits:=λv=>
  (FK (s:=sv w i) hm (l:=(dW (sv w i) m.slot).waits) (vs:=m.waits) (λv hv=>(Cv.1 hv).2) (λv hv=>((f3 v).1 hv).2) th.2.1 v).trans (or_congr Cv Iff.rfl)
 have ho:∀d,d∈(iJ (sv w i) m).aD↔(d∈(sv w i).aD/\cL d.key≠m.slot)\/d∈m.aD:=λd=>Ky.trans (or_congr KM Iff.rfl);have be:∀key:Int,c7 key=true->cM (iJ (sv w i) m) key=if cL key=m.slot then 1 else cM (sv w i) key:=λkey hk=>by
  have hk:=EG hk;unfold cM;show(ab ((sv w i).aw.set m.slot.toNat ⟨m.ba,1⟩) _).bD=_;rw[eO (by rw[hlen];omega)];by_cases e:cL key=m.slot
  .rw[if_pos (by rw[e]),if_pos e]
  rw[if_neg om,if_neg e]
 have zK:∀v,dL v=true->cM (sv w i) v.key≠0\/cL v.key=m.slot->cM (iJ (sv w i) m) v.key≠0:=λv hv h=>by
  rw[be _ (iW hv).1];split
  .decide
  rename_i aX;exact h.resolve_right aX
 refine⟨U.site,?_,TG (xJ U.ai (List.filter_sublist)) th.1 b1,TG (xJ U.waits (List.filter_sublist)) th.2.1 b2,TH (B1 U.aD (List.filter_sublist)) (vE.1 th.2.2.1).2.1 b3,U.aV,U.up,?_,?_,?_,?_,?_,?_⟩
 .show((sv w i).aw.set _ _).length=3;rw[List.length_set];exact hlen
 .intro x hx;rcases List.mem_or_eq_of_mem_set hx with hx|rfl
  .exact U.aK x hx
  have:=(kJ hm).2.2.2.2.2.2.2.2.2.1;exact rz.2 ⟨this.1,this.2,by show(0:Int)<=1;decide,by show(1:Int)<=2;decide,λ_ e=>by rw[show m.ba=0 from e] at he;omega⟩
 .intro v pE;rcases(hv v).1 pE with h1|h1
  .exact zK v (fi U.ai v h1.1) (.inl (U.here v h1.1))
  exact zK v (fi th.1 v h1) (.inr ((f2 v).1 h1).2)
 .intro v pE;rcases(rX v).1 pE with h1|h1
  .exact zK v (fi U.waits v h1.1) (.inl (U.nZ v h1.1))
  exact zK v (fi th.2.1 v h1) (.inr ((f3 v).1 h1).2)
 .intro v pE;rcases(rX v).1 pE with h1|h1
  .exact U.n5 v h1.1
  have:=ht.n5 v ((f3 v).1 h1).1;show bM v.aq.site≠bM (sv w i).site;rw[h.site (gX hi)] at this;rw[h.site hi];have e:bM ((bL i:Nat):Int)=bM ((i:Nat):Int):=by
   rw[(sU (iF.2 ⟨by omega,by have:=gX hi;omega⟩)).1,(sU (n:=(i:Int)) (iF.2 ⟨by omega,by omega⟩)).1];have:=nv i;omega
  rwa[e] at this
 .intro v pE x hx;have gj:x.aU=v.aU->x.key=v.key:=λe=>congrArg au.key e;rcases(rX v).1 pE with h1|h1<;>rcases(hv x).1 hx with h2|h2
  .exact U.apart v h1.1 x h2.1
  .exactλe=>h1.2 (by rw[<-gj e];exact((f2 x).1 h2).2)
  .exactλe=>h2.2 (by rw[gj e];exact((f3 v).1 h1).2)
  exact ht.apart v ((f3 v).1 h1).1 x ((f2 x).1 h2).1
 intro d hd;rcases(ho d).1 hd with h1|h1
 .obtain⟨x,hx,e⟩:=U.ly d h1.1;exact⟨x,(hv x).2 (.inl ⟨hx,by rw[show x.key=d.key from congrArg au.key e];exact h1.2⟩),e⟩
 obtain⟨x,hx,e⟩:=ht.ly d ((f4 d).1 h1).1;exact⟨x,(hv x).2 (.inr ((f2 x).2 ⟨hx,by rw[show x.key=d.key from congrArg au.key e];exact((f4 d).1 h1).2⟩)),e⟩
def T4 {w:aj} (h:Inv w) {i:Nat} (hi:i<4) {m:ax} (g:dX w m) (hk:m.kind=1) {s:cx} (U:s∈fh (sv w i) m):∃τ u,bn w τ u/\u.aq=s:=by
 unfold fh at U;rcases List.mem_append.1 U with U|U
 .obtain⟨d,hd,rfl⟩:=List.mem_map.1 U;obtain⟨q,hq,_,_,_,_,_,_,a7⟩:=g.k1 hk;rw[<-a7] at hd;obtain⟨u,hu,e,_⟩:=h.ctx q hq d hd;exact⟨_,u,hu,by rw[<-e];rfl⟩
 split at U
 .rename_i v hv;obtain rfl:=List.mem_singleton.1 U;exact⟨_,v,.here hi (rv hv).1,rfl⟩
 simp at U
def agS {w:aj} (h:Inv w) {i:Nat} (hi:i<4) {m:ax} (g:dX w m) {v:aE} (hn:FO (sv w i) m v):v.aq.time=1\/∃τ u,bn w τ u/\u.aq.time=v.aq.time-1:=by
 rw[hn.eq];have e:(eK (sv w i) m).aq=⟨je (fh (sv w i) m)+1,(sv w i).site⟩:=by
  show nz _ _=_;unfold nz;rw[if_pos hn.ok]
 rw[e];rcases It (fh (sv w i) m) 0 with h1|⟨s,U,h1⟩
 .left;show je _+1=1;unfold je;rw[h1];rfl
 right;obtain⟨τ,u,hu,e2⟩:=T4 h hi g hn.kind U;refine⟨τ,u,hu,?_⟩;rw[e2,h1];show je _=je _+1-1;omega
def agT {s:Server} (h:xA s) (m:ax):xA (cK s m).1:=by
 have same:∀{t:Server},t.waits=s.waits->t.aV=s.aV->xA t:=λ{t} e1 e2 d hd=>by
  rw[Qk e1];rw[e2] at hd;exact h d hd
 unfold cK;split
 .unfold cJ;split
  .unfold fT;split
   .split
    .exact h
    split
    .exact zi _
    exact h
   exact h
  split
  .exact h
  split
  .unfold fL;split
   .dsimp only;split
    .split
     .exact zi _
     exact h
    exact zi _
   exact h
  split
  .unfold iS;split
   .exact same rfl rfl
   exact h
  split
  .exact h
  split
  .unfold fK;split
   .exact zi _
   exact h
  split
  .unfold fj;split
   .split
    .exact h
    split
    .exact zi _
    exact h
   exact h
  split
  .unfold g8;split
   .exact zi _
   exact h
  exact h
 exact h
def z5 (s:Server):dx (dB s)<0:=by
 have h:dx (gZ s)<0:=TC _ s (Nat.le_refl _);exact Cz (t:=dB s) h rfl rfl λv _=>CA (λe=>e) λd _=>CD (s:=gZ s) (t:=dB s) rfl λd hd=>(List.mem_filter.1 hd).1
def agU {s:Server} (h:dx s<0) (m:ax):dx (cK s m).1<0:=by
 unfold cK;split
 .unfold cJ;split
  .unfold fT;split
   .split
    .exact h
    split
    .exact z5 _
    exact h
   exact h
  split
  .exact h
  split
  .unfold fL;split
   .dsimp only;split
    .split
     .exact z5 _
     exact h
    exact z5 _
   exact h
  split
  .show dx (iS s m)<0;unfold iS;split
   .exact Cz h rfl rfl λv _=>CA (λe=>e) λd _=>CD rfl λd hd=>hd
   exact h
  split
  .exact h
  split
  .show dx (fK s m)<0;unfold fK;split
   .exact z5 _
   exact h
  split
  .unfold fj;split
   .split
    .exact h
    split
    .exact z5 _
    exact h
   exact h
  split
  .show dx (g8 s m)<0;unfold g8;split
   .exact z5 _
   exact h
  exact h
 exact h
def agV:iz dA:=by
 have h:∀i,i<4->(sv dA i).ai=[]/\(sv dA i).aV=[]:=by decide
 refine⟨λσ v ⟨i,hi,_,hv⟩=>?_,λi hi d hd=>?_,λq hq=>by simp[dA] at hq,by decide⟩
 .rw[(h i hi).1] at hv;simp at hv
 rw[(h i hi).2] at hd;simp at hd
def agW {P:Program} {H:List Own} {Γ:Env} {g:Bool} {d:Option Tmp} {y z:Operand} {T T' ty:TypeId} {p:String} {af:Array Edge} {gd:Option (Nat×Bool)} {m n:Int} (hy:At Γ g y (.int m)) (hz:At Γ g z (.int n)):
 Ok P H Γ g ⟨d,.call ⟨.builtin .min,#[y,z],#[T,T']⟩,ty,p,af,gd⟩ (.int (min m n)):=
 iA λI a w he hg=>by
  have h1:a.eval y=.int .i64 m:=hy I a he hg;have h2:a.eval z=.int .i64 n:=hz I a he hg;have e:(if n<m then n else m)=min m n:=by split<;>omega
  simp only[execOp,resolve,invoke,builtin,Sem.run_bind,Sem.run_pure,Result.andThen_ok,List.map_toArray,List.map_cons,List.map_nil,h1,h2];simp[Builtin.min_,Builtin.min2,e]
structure wh (f:aj->Nat->aj) (n:Int) (x y:aj) (k:Nat):Prop where
 aK:bR y
 time:y.time<=x.time+n*k
 eq:y=(List.range k).foldl f x
def wh.zero {f:aj->Nat->aj} {n:Int} {x:aj} (h:bR x):wh f n x x 0:=⟨h,by omega,rfl⟩
structure Calm (w:aj):Prop where
 inv:Inv w
 more:iz w
 up:∀i,i<4->(sv w i).up=true
def agX (s:Server) (m:ax):(cK s m).1.up=s.up:=by
 unfold cK;split
 .unfold cJ;split
  .unfold fT;split
   .split
    .rfl
    split
    .exact zj _
    rfl
   rfl
  split
  .rfl
  split
  .unfold fL;split
   .dsimp only;split
    .split
     .exact zj _
     rfl
    exact zj _
   rfl
  split
  .unfold iS;split<;>rfl
  split
  .rfl
  split
  .unfold fK;split
   .exact zj _
   rfl
  split
  .unfold fj;split
   .split
    .rfl
    split
    .exact zj _
    rfl
   rfl
  split
  .unfold g8;split
   .exact zj _
   rfl
  rfl
 rfl
def Calm.frame {w x:aj} (h:Calm w) (hi:Inv x) (hm:iz x) (e:x.aA=w.aA):Calm x:=⟨hi,hm,λi hi=>by unfold sv;rw[e];exact h.up i hi⟩
def agY (s:Server) (m:ax) (k:Nat):ab (cK s m).1.aw k=ab s.aw k\/(ab (cK s m).1.aw k).bD≠2:=by
 have same:∀{t:Server},t.aw=s.aw->ab t.aw k=ab s.aw k\/(ab t.aw k).bD≠2:=λh=>by rw[h];exact .inl rfl
 unfold cK;split
 .unfold cJ;split
  .unfold fT;split
   .split
    .exact same rfl
    split
    .exact same (lz _)
    exact same rfl
   exact same rfl
  split
  .exact same rfl
  split
  .unfold fL;split
   .dsimp only;split
    .split
     .exact same (lz _)
     exact same rfl
    exact same (lz _)
   exact same rfl
  split
  .unfold iS;split<;>exact same rfl
  split
  .exact same rfl
  split
  .unfold fK;split
   .exact same (lz _)
   exact same rfl
  split
  .unfold fj;split
   .split
    .exact same rfl
    split
    .show ab (dB (iJ s m)).aw k=_\/(ab (dB (iJ s m)).aw k).bD≠2;rw[lz];rcases BH (l:=s.aw) (i:=m.slot.toNat) (x:=⟨m.ba,1⟩) k with e|e
     .exact .inl e
     right;show(ab (s.aw.set m.slot.toNat ⟨m.ba,1⟩) k).bD≠2;rw[e];show(1:Int)≠2;decide
    exact same rfl
   exact same rfl
  split
  .unfold g8;split
   .show ab (dB (kg s m)).aw k=_\/(ab (dB (kg s m)).aw k).bD≠2;rw[lz];rcases BH (l:=s.aw) (i:=m.slot.toNat) (x:=⟨m.ba,0⟩) k with e|e
    .exact .inl e
    right;show(ab (s.aw.set m.slot.toNat ⟨m.ba,0⟩) k).bD≠2;rw[e];show(0:Int)≠2;decide
   exact same rfl
  exact same rfl
 exact same rfl
def o8 {x:aj} (h:Calm x) {j:Nat} (hj:j<4) {m:ax} (hm:bI m=true) (ey:m.to=(j:Int)):cK (sv x j) m=cJ (sv x j) m:=by
 unfold cK;rw[if_pos (by rw[h.up j hj,hm,ey,h.inv.site hj];simp)]
def agZ {x:aj} (h:Calm x) {i:Nat} (hi:i<4) {m:ax} (hm:bI m=true) (hk:m.kind=6) (ey:m.to=(i:Int)) (hf:0<=m.aO/\m.aO<=3) (CG:m.aO/2≠((i/2:Nat):Int)) (U:cM (sv x i) m.key=1):(⟨m.key,m.aq⟩:au)∉(cK (sv x i) m).1.aD:=by
 rw[o8 h hi hm ey];have jx:=h.inv.site hi;have hsj:=(sU (n:=(i:Int)) (iF.2 ⟨by omega,by omega⟩)).1;have hsf:=(sU (n:=m.aO) (iF.2 hf)).1;unfold cJ;rw[if_neg om,if_neg om,if_neg om,if_pos hk];show _∉(iS _ _).aD;unfold iS;have c1:(cr m.aO&&(bM m.aO !=bM (sv x i).site))=true:=by
  rw[iF.2 hf,jx];simp only[Bool.true_and,bne_iff_ne];omega
 by_cases hd:(⟨m.key,m.aq⟩:au)∈(sv x i).aD
 .have hp:=oe.2 hd;rw[if_pos (by rw[c1,U];simpa using hp)];intro dq;obtain⟨k,k1,k2,k3⟩:=Qy (l:=(sv x i).aD) dq;have K9:=aaF hp;have ha:=Cy (h.inv.cQ hi).aD;rcases Nat.lt_or_gt_of_ne k2 with bw|bw
  .exact xq ha bw K9.1 (k3.trans K9.2.symm)
  exact xq ha bw k1 (K9.2.trans k3.symm)
 have hp:¬0<=eW (sv x i).aD ⟨m.key,m.aq⟩:=λh=>hd (oe.1 h);rw[if_neg (by rw[c1];simp;intro h;exact absurd h hp)];exact hd
def T5 {s:Server} {d:au} {v:aE} (h:ew s d=true) (hv:v∈(dB s).waits) (hd:d∈v.aQ):ew (dB s) d=true:=by
 rcases TF h with⟨x,hx,e⟩|h
 .exact KR ⟨x,TK hx,e⟩
 refine KS (List.mem_filter.2 ⟨?_,Cc.2 ⟨v,hv,hd⟩⟩);have:(gZ s).aV=s.aV:=(IT _ s).2.2.2.2;rw[this];exact h
structure Ask (w:aj) (n:Nat) (x:aj):Prop where
 calm:Calm x
 rest:Rest x
 aw:∀j,j<4->(sv x j).aw=(sv w j).aw
 len:n<x.calls.length
 same:jR (ab w.calls n) (ab x.calls n)
def T6 {q:Call} {key:Int} (h:∃a∈q.aC,a.key=key) (m:ax) (t:Int):∃a∈(cP q m t).aC,a.key=key:=by
 obtain⟨a,ha,e⟩:=h;have same:∀{p:Call},p.aC=q.aC->∃a∈p.aC,a.key=key:=λhp=>⟨a,by rw[hp];exact ha,e⟩;unfold cP;split
 .split
  .split
   .exact same rfl
   exact same rfl
  unfold ig;split
  .split
   .split
    .have hi:∃a∈c8 q.aC (dh m),a.key=key:=⟨a,pX.2 (.inr ha),e⟩;unfold l9;dsimp only;split
     .exact hi
     unfold kD;split
     .exact hi
     exact hi
    exact same rfl
   rename_i hp;split
   .unfold lu;split
    .have hh:=tY (q:=q) (key:=m.key) om;have U:∃b∈q.aC.set (cm q (dh m).key).toNat (dh m),b.key=key:=by
      obtain⟨k,hk,rfl⟩:=gm ha;by_cases e2:k=(cm q m.key).toNat
      .refine⟨dh m,IX (by show(cm q m.key).toNat<_;exact hh.1),?_⟩;rw[<-e,e2,hh.2];rfl
      exact⟨_,Ij hk e2,e⟩
     dsimp only;split
     .exact U
     exact U
    exact same rfl
   exact same rfl
  exact same rfl
 exact same rfl
def T7 {x:aj} (h:Calm x) {j:Nat} (hj:j<4) {m:ax} (hm:bI m=true) (hk:m.kind=3) (ey:m.to=(j:Int)) (hf:10<=m.aO/\m.aO<=11) (hc:1<=m.call) (U:cM (sv x j) m.key=1):
 (cK (sv x j) m).2=if dS m.aq then[lM (sv x j) m (dV (sv x j).ai m.key)] else match eE (sv x j).ai ⟨m.key,m.aq⟩ with|some v=>[lM (sv x j) m (some v)]|none=>[]:=by
 rw[o8 h hj hm ey];unfold cJ;rw[if_neg om,if_pos hk];have kT:(aH m.aO 10 11&&decide (1<=m.call)&&fq (sv x j) m.key)=true:=by
  unfold fq;rw[U,BR hm];simp[aH,hf,hc]
 show gN _ _=_;unfold gN;rw[if_pos kT];rfl
structure mc (w x:aj) (t:Nat):Prop where
 inv:Inv x
 more:iz x
 dY:∀σ v,bn w σ v->bn x σ v
 time:x.time<=w.time+t
def mc.mono {w x:aj} {a b:Nat} (h:mc w x a) (D2:a<=b):mc w x b:=⟨h.inv,h.more,h.dY,by have:=h.time;omega⟩
def mc.rfl {w:aj} (h:Inv w) (hm:iz w):mc w w 0:=⟨h,hm,λ_ _ hv=>hv,by omega⟩
def CJ {w:aj} (h:Inv w) {i:Nat} (hi:i<4) {k:Nat} (hk:k<3):0<=(ab (sv w i).aw k).bD/\(ab (sv w i).aw k).bD<=2:=by
 have:=rz.1 ((h.cQ hi).aK _ (bf (l:=(sv w i).aw) (k:=k) (by rw[(h.cQ hi).aw];exact hk)));omega
def ag2 {w:aj} (h:Inv w) {σ:Nat} (hσ:σ<2) {key:Int} {v:aE} (hv:dV (cN w (σ:Int)) key=some v):bn w σ v/\v.key=key:=⟨(nb h hσ).1 (rv hv).1,(rv hv).2⟩
def CK {w:aj} (h:Inv w) {i:Nat} (hi:i<4):(ab w.aA i).aw.length=3:=(h.cQ hi).aw
def agC (b:Nat) (x:aj) (e:Ev) (s r q z:Value) (hg:bR x) (ht:x.time<=1000000):
 dr prog 100 [AV.val (.pointer (some ⟨b,0,none⟩)),e.av] (x.full b s r q z) (λ_:Value×Value=>True) (λu=>bif (g9 x e).2 then(g9 x e).1.full b s u.1 u.2 z else[]) (λ_=>AV.bool (g9 x e).2):=by
 refine dr.intro 148 func100 rfl ntmps100 rfl aS (λW I a U=>?_);change St _ _ [Own.box b 28 [AV.int x.time,AV.val s,AV.val r,AV.val q,AV.val z],Own.row s 43 7 (x.aA.map Server.cells),Own.row r 84 15 (x.al.map ax.cells),Own.row q 53 13 (x.calls.map Call.cells),Own.row z 41 1 (x.seen.map fX)] _ _ _ at U;have mY:=hg.lens;have vU:=hg.seen;have zS:=hg.time;have kr:=hg.al;have nR:=hg.aA;have FE:(List.map ax.cells x.al).length<=60:=by rw[List.length_map];exact kr
 obtain⟨bS,cS,rfl⟩:=U.j3 1 rfl ko;refine iP λI a w U=>?_;refine cz (λae=>?_) λae=>?_
 .refine aG λI a w U=>?_;refine U.dj [0,1,2,3,4] (afc b x e (.slice (some ⟨bS,0,none⟩) (x.aA.map Server.cells).length cS) r q z hg ht) (az .tt (az .tt aI)) rfl aN rfl λu I a w FW U=>?_;refine U.s λU=>nn<|wp_ret<|wC<|yq ?_;have hR:g9 x e=jJ x e:=aeP ae;cases hB:(jJ x e).2
  .refine U.dw (r,r) [] rfl (.cons (lH.t rfl) .nil) trivial (by rw[hR,hB];rfl) (by rw[hR];rfl)
  rw[hB] at U;refine U.dw (r,u) [0,1,2,3,4] rfl (.cons (lH.t rfl) .nil) trivial (by rw[hR,hB];rfl) (by rw[hR,hB];rfl)
 refine St.cut (σ:=Bool) (17::18::19::[]) ⟨λg=>[(17,AV.bool g)],λg=>[Own.box b 28 [AV.int x.time,AV.val (.slice (some ⟨bS,0,none⟩) (x.aA.map Server.cells).length cS),AV.val r,AV.val q,AV.val z],Own.row (.slice (some ⟨bS,0,none⟩) (x.aA.map Server.cells).length cS) 43 7 ((x.aA).map Server.cells),Own.row r 84 15 ((x.al).map ax.cells),Own.row q 53 13 ((x.calls).map Call.cells),Own.row z 41 1 ((x.seen).map fX)],λg=>g=decide (e.kind=2\/e.kind=3)⟩ U ?rR ?Cq;case rR=>
  refine aF λI a w U=>?_;refine cz (λah=>?_) λah=>?_
  .refine zt ?_;exact U.me (e.kind==2) (by first|(show(e.kind==2)=_;rw[Bool.eq_iff_iff];simp;omega)|(show(e.kind==3)=_;rw[Bool.eq_iff_iff];simp;omega))
  refine aF λI a w U=>?_;exact U.me (e.kind==3) (by first|(show(e.kind==2)=_;rw[Bool.eq_iff_iff];simp;omega)|(show(e.kind==3)=_;rw[Bool.eq_iff_iff];simp;omega))
 rintro g I a w an U;obtain rfl:g=decide (e.kind=2\/e.kind=3):=an;refine cz (λar=>?_) λar=>?_
 .refine bm λI a w U=>?_;refine U.o (DO (xs:=[AV.val (.pointer (some ⟨b,0,none⟩)),AV.int e.ao]) (sE:=[AV.ptr [AV.int x.time,AV.val (.slice (some ⟨bS,0,none⟩) (x.aA.map Server.cells).length cS),AV.val r,jl x.calls,AV.val z],AV.int e.ao]) (JU x.calls x.time (.slice (some ⟨bS,0,none⟩) (x.aA.map Server.cells).length cS) r z e.ao) (az .tt (az .tt aI)) (λc I a w U=>by obtain⟨I,U⟩:=U.fu 3 3 0;obtain⟨I,U⟩:=U.fb 0 0;exact⟨_,_,_,U,rfl,rfl,trivial⟩)) λU=>?_;refine aR λI a w U=>?_;refine cz (λaM=>?_) λaM=>?_
  .refine aB λI a w U=>?_;have hR:g9 x e=(x,false):=aeQ ar aM;refine U.dw (r,r) [] rfl (.cons (.t rfl) .nil) trivial (by rw[hR];rfl) (by rw[hR];rfl)
  obtain⟨h1,h2,h3⟩:=l5 (show 0<=(bY x.calls e.ao) by omega);obtain⟨bC,cC,rfl⟩:=U.j3 3 rfl ko;refine aR λI a w U=>?_;refine cz (λaP=>?_) λaP=>?_
  .refine ee λI a w U=>?_;refine U.o (jj oO fI .tt .tt (λ_=>by rw[List.length_map];omega)) λU=>?_;refine U.o (si 3 fI .tt rfl (λ_=>by exact gh om) rfl) λU=>?_;refine U.o (.c1 (afm (ab x.calls (bY x.calls e.ao).toNat) x.time (hg.call h1) ht)) λU=>?_;refine U.dj [0,2] (FG b x.time (.slice (some ⟨bS,0,none⟩) (x.aA.map Server.cells).length cS) r (.slice (some ⟨bC,0,none⟩) (x.calls.map Call.cells).length cC) z x.al (ie (ab x.calls (bY x.calls e.ao).toNat)) kr (TQ (hg.call h1)).1 (TQ (hg.call h1)).2) (az .tt (az .r aI)) rfl aN rfl λu2 I a w Cm U=>?_;refine aB λI a w U=>?_;have hR:g9 x e=({x with al:=eo x.al (ie (ab x.calls (bY x.calls e.ao).toNat))},true):=aeR aP om;refine U.dw (u2,(.slice (some ⟨bC,0,none⟩) (x.calls.map Call.cells).length cC)) [0,1,2,3,4] rfl (.cons (.t rfl) .nil) trivial (by rw[hR];rfl) (by rw[hR];rfl)
  refine cj λI a w U=>?_;refine U.o (jj oO fI .tt .tt (λ_=>by rw[List.length_map];omega)) λU=>?_;refine U.o .fv λU=>?_;refine U.AY (j:=8) 3 Bq .tt .c (by first|exact lG rfl|exact lQ|exact lR|exact lV|assumption) rfl (by exact gh om) rfl rfl λa w U=>?_;refine wpList_nil ?_;have e9:∀y,y=Call.cells {(ab x.calls (bY x.calls e.ao).toNat) with over:=true}->(List.map Call.cells x.calls).set (bY x.calls e.ao).toNat y=List.map Call.cells (x.calls.set (bY x.calls e.ao).toNat {(ab x.calls (bY x.calls e.ao).toNat) with over:=true}):=λy hy=>by rw[hy,List.map_set]
  rw[e9] at U;rotate_left
  .rfl
  refine aB λI a w U=>?_;have hR:g9 x e=({x with calls:=x.calls.set (bY x.calls e.ao).toNat {(ab x.calls (bY x.calls e.ao).toNat) with over:=true}},true):=aeS om om;refine U.dw (r,(.slice (some ⟨bC,0,none⟩) (x.calls.map Call.cells).length cC)) [0,1,2,3,4] rfl (.cons (.t rfl) .nil) trivial (by rw[hR];rfl) (by rw[hR];rfl)
 refine aF λI a w U=>?_;refine cz (λbx=>?_) λbx=>?_
 .refine aG λI a w U=>?_;refine U.dj [0,1,2,3,4] (afV b x e (.slice (some ⟨bS,0,none⟩) (x.aA.map Server.cells).length cS) r q z hg ht bx) (az .tt (az .tt aI)) rfl aN rfl λu I a w ao9 U=>?_;refine U.s λU=>nn<|wp_ret<|wC<|yq ?_;have hR:g9 x e=gP x e:=KB (.inl bx);cases hB:(gP x e).2
  .refine U.dw (r,r) [] rfl (.cons (lH.t rfl) .nil) trivial (by rw[hR,hB];rfl) (by rw[hR];rfl)
  rw[hB] at U;refine U.dw (u,q) [0,1,2,3,4] rfl (.cons (lH.t rfl) .nil) trivial (by rw[hR,hB];rfl) (by rw[hR,hB];rfl)
 refine aF λI a w U=>?_;refine cz (λbt=>?_) λbt=>?_
 .refine wp_seq<|wp_seq<|U.dk ?_;refine iC ?_;refine .o (sh 2 gf .tt rfl) ?_;refine bJ ?_;refine .o (.cl (jq ..)) ?_;refine bJ ?_;refine .nil ?_;intro I a w U;refine bj ?_;refine U.cd (λcE=>?_) λcE=>?_
  .rw[List.length_map] at cE;replace cE:=nt cE;refine aB λI a w U=>?_;have hR:g9 x e=(x,false):=by rw[KB (.inr bt),FC cE]
   refine U.dw (r,r) [] rfl (.cons (.t rfl) .nil) trivial (by rw[hR];rfl) (by rw[hR];rfl)
  rw[List.length_map] at cE;replace cE:=nf cE;have tw:=cE;simp only[aH,Bool.and_eq_true,decide_eq_true_eq] at tw;refine zt ?_;refine U.gw (rp 4 (([0],none)::rp 5 (([2],some (2,[73]))::rp 2 [([0],some (0,[73]))]))) aS aS rfl ?_;refine ef ?_;refine .r [0] (.lb 0) ?_;refine gF ?_;refine aY.OR 2 rfl rfl (S8 r x.al e.word om om om) (az .r (az .tt (az .tt aI))) ?_;refine cB ?_;refine aY.DF 0 rfl HX .tt rfl rfl<|.nil ?_;intro I a w U;change St _ _ [Own.box b 28 [AV.int x.time,AV.val (.slice (some ⟨bS,0,none⟩) (x.aA.map Server.cells).length cS),AV.val (a.tmps.getD 73 undef),AV.val q,AV.val z],Own.row (.slice (some ⟨bS,0,none⟩) (x.aA.map Server.cells).length cS) 43 7 ((x.aA).map Server.cells),Own.row (a.tmps.getD 73 undef) 84 15 ((x.al.take e.word.toNat++x.al.drop (e.word.toNat+1)).map ax.cells),Own.row q 53 13 ((x.calls).map Call.cells),Own.row z 41 1 ((x.seen).map fX)] _ _ _ at U;generalize a.tmps.getD 73 undef=v73 at U;refine aB λI a w U=>?_;have hR:g9 x e=({x with al:=x.al.take e.word.toNat++x.al.drop (e.word.toNat+1)},true):=by rw[KB (.inr bt),vY cE,if_pos bt];unfold iY;rw[if_pos (.inl bt)]
  refine U.dw (v73,q) [0,1,2,3,4] rfl (.cons (.t rfl) .nil) trivial (by rw[hR];rfl) (by rw[hR];rfl)
 refine aG λI a w U=>?_;refine U.o (.cl (jq ..)) λU=>?_;refine bB λI a w U=>?_;refine U.q .F (.cl (tQ ..)) λU=>?_;refine aF λI a w U=>?_;refine U.cd (λdF=>?_) λdF=>?_
 .rw[<-Bool.not_and] at dF;replace dF:=nt dF;refine aB λI a w U=>?_;have hR:g9 x e=(x,false):=aeT ae ar bx bt dF;refine U.dw (r,r) [] rfl (.cons (.t rfl) .nil) trivial (by rw[hR];rfl) (by rw[hR];rfl)
 rw[<-Bool.not_and] at dF;replace dF:=nf dF;have TW:=dF;simp only[aH,Bool.and_eq_true,decide_eq_true_eq] at TW;have zE:=iF.1 TW.2;have fy:=(hg.site e.at_.toNat om).2;refine wp_skip<|bj<|wp_seq<|U.dk ?_;refine iC ?_;refine .o (jj tL cv .tt .tt (λ_=>by rw[List.length_map];omega)) ?_;refine bJ ?_;refine .nil ?_;intro I a w U;refine bj<|wp_seq<|wp_seq<|U.dk ?_;refine dD ?_;refine .o (Wm 1 Bq .tt rfl (λ_=>by exact gh om) rfl rfl rfl) ?_;refine dD ?_;refine .o (Nq .tt .tt yM)<|.nil ?_;intro I a w U;refine bj ?_;refine U.cd (λiM=>?_) λiM=>?_
 .refine aB λI a w U=>?_;have hR:(g9 x e).2=false:=by rw[zX dF];exact aeU iM
  refine U.dw (r,r) [] rfl (.cons (.t rfl) .nil) trivial (by rw[hR];rfl) (by rw[hR];rfl)
 refine aZ λI a w U=>?_;refine cz (λjw=>?_) λjw=>?_
 .refine bm λI a w U=>?_;refine U.o (si 1 cv .tt rfl (λ_=>by exact gh om) rfl) λU=>?_;refine U.o (.c1 (aeJ (ab x.aA e.at_.toNat) fy)) λU=>?_;refine U.o .nl λU=>?_;refine U.lS 1 cv .tt .tt rfl (by exact gh om) rfl rfl λa w U=>?_;refine wpList_nil ?_;have e9:∀y,y=Server.cells (ll (ab x.aA e.at_.toNat))->(List.map Server.cells x.aA).set e.at_.toNat y=List.map Server.cells (x.aA.set e.at_.toNat (ll (ab x.aA e.at_.toNat))):=λy hy=>by rw[hy,List.map_set]
  rw[e9] at U;rotate_left
  .rfl
  refine aB λI a w U=>?_;have hR:g9 x e=({x with aA:=x.aA.set e.at_.toNat (ll (ab x.aA e.at_.toNat))},true):=by rw[zX dF,aff iM jw]
  refine U.dw (r,q) [0,1,2,3,4] rfl (.cons (.t rfl) .nil) trivial (by rw[hR];rfl) (by rw[hR];rfl)
 refine aF λI a w U=>?_;refine cz (λFX=>?_) λFX=>?_
 .refine bm λI a w U=>?_;refine U.o (si 1 cv .tt rfl (λ_=>by exact gh om) rfl) λU=>?_;refine U.o (.c1 (aeI (ab x.aA e.at_.toNat) fy)) λU=>?_;refine U.o .nl λU=>?_;refine U.lS 1 cv .tt .tt rfl (by exact gh om) rfl rfl λa w U=>?_;refine wpList_nil ?_;have e9:∀y,y=Server.cells (jF (ab x.aA e.at_.toNat))->(List.map Server.cells x.aA).set e.at_.toNat y=List.map Server.cells (x.aA.set e.at_.toNat (jF (ab x.aA e.at_.toNat))):=λy hy=>by rw[hy,List.map_set]
  rw[e9] at U;rotate_left
  .rfl
  refine aB λI a w U=>?_;have hR:g9 x e=({x with aA:=x.aA.set e.at_.toNat (jF (ab x.aA e.at_.toNat))},true):=by rw[zX dF,afg iM FX]
  refine U.dw (r,q) [0,1,2,3,4] rfl (.cons (.t rfl) .nil) trivial (by rw[hR];rfl) (by rw[hR];rfl)
 refine aF λI a w U=>?_;refine cz (λFY=>?_) λFY=>?_
 .refine bm λI a w U=>?_;refine U.o (si 1 cv .tt rfl (λ_=>by exact gh om) rfl) λU=>?_;refine U.o (.c1 (aet (ab x.aA e.at_.toNat) fy)) λU=>?_;refine U.dj [0,2] (FG b x.time (.slice (some ⟨bS,0,none⟩) (x.aA.map Server.cells).length cS) r q z x.al (gy (ab x.aA e.at_.toNat)) kr (by have:=Sq fy;omega) (λy hy=>xH (Fl fy y hy))) (az .tt (az .r aI)) rfl aN rfl λu2 I a w apa U=>?_;refine aB λI a w U=>?_;have hR:g9 x e=({x with al:=eo x.al (gy (ab x.aA e.at_.toNat))},true):=by rw[zX dF,aeV iM FY]
  refine U.dw (u2,q) [0,1,2,3,4] rfl (.cons (.t rfl) .nil) trivial (by rw[hR];rfl) (by rw[hR];rfl)
 refine aF λI a w U=>?_;refine cz (λCH=>?_) λCH=>?_
 .refine wp_seq ?_;have U:=U.jc;have U:=U.jc;refine U.gw (rp 2 [([1],none),([],none),([],none),([],none),([],none),([],none),([],none),([],none),([5],some (5,[7])),([6],some (6,[8])),([5],some (5,[7])),([6],some (6,[8])),([],none)]) aS aS rfl ?_;refine cB ?_;refine .r [1] (si 1 cv .tt rfl (λ_=>by exact gh om) rfl) ?_;refine cB ?_;refine .o (.c2 (aes (ab x.aA e.at_.toNat) e.slot fy)) ?_;refine ef ?_;refine aY.alloc 5 rfl rfl cv dN<|aY.alloc 6 rfl rfl dI eI<|aY.q7 5 rfl cv rfl .tt rfl rfl<|aY.q7 6 rfl dI rfl .tt rfl rfl ?_;refine bJ ?_;refine .nil ?_;intro I a w U;obtain⟨b7,U⟩:=U.oL (d:=7) 5 rfl rfl;obtain⟨I,U⟩:=U.fb 5 7;obtain⟨b8,U⟩:=U.oL (d:=8) 6 rfl rfl;obtain⟨I,U⟩:=U.fb 6 8;refine aF λI a w U=>?_;refine U.cd (λtg=>?_) λtg=>?_
  .replace tg:=nt tg;refine aB λI a w U=>?_;have hR:g9 x e=(x,false):=by rw[zX dF,aeX CH tg]
   refine U.dw (r,r) [] rfl (.cons (.t rfl) .nil) trivial (by rw[hR];rfl) (by rw[hR];rfl)
  replace tg:=nf tg;refine bm λI a w U=>?_;refine U.lS 1 cv .tt .tt rfl (by exact gh om) rfl rfl λa w U=>?_;refine wpList_nil ?_;have e9:∀y,y=Server.cells (eZ (ab x.aA e.at_.toNat) e.slot).1->(List.map Server.cells x.aA).set e.at_.toNat y=List.map Server.cells (x.aA.set e.at_.toNat (eZ (ab x.aA e.at_.toNat) e.slot).1):=λy hy=>by rw[hy,List.map_set]
  rw[e9] at U;rotate_left
  .rfl
  refine aG λI a w U=>?_;refine U.o (.li [(eZ (ab x.aA e.at_.toNat) e.slot).2.1.cells] ir (.u .nil)) λU=>?_;refine U.dj [0,2] (FG b x.time (.slice (some ⟨bS,0,none⟩) (x.aA.map Server.cells).length cS) r q z x.al [(eZ (ab x.aA e.at_.toNat) e.slot).2.1] kr bk (aeY fy tg)) (az .tt (az .r aI)) rfl aN rfl λu2 I a w apb U=>?_;refine aB λI a w U=>?_;have hR:g9 x e=({x with aA:=x.aA.set e.at_.toNat (eZ (ab x.aA e.at_.toNat) e.slot).1,al:=eo x.al [(eZ (ab x.aA e.at_.toNat) e.slot).2.1]},true):=by rw[zX dF,aeW CH tg]
  refine U.dw (u2,q) [0,1,2,3,4] rfl (.cons (.t rfl) .nil) trivial (by rw[hR];rfl) (by rw[hR];rfl)
 refine bK λI a w U=>?_;refine nn<|wp_ret ?_;exfalso;omega
def agB (x:aj) (e:Ev) (hg:bR x) (ht:x.time<=1000000):
 Fn prog 87 [x.av,e.av] (AV.dy [(gP x e).1.av,AV.bool (gP x e).2]):=by
 refine Fn.go 87 func87 ntmps87 (λW I a U=>?_);have kr:=hg.al;have jK:=hg.aA;have oj:=Tk hg e;refine sr<|U.box rfl .tt λb2 I a w U=>U.o .bp λU=>U.alloc rfl dM ei λb4 I a w U=>?_;refine gT λI a w U=>?_;refine U.o (.cl (jE ..)) λU=>?_;refine aB λI a w U=>?_;refine U.cd (λae=>?_) λae=>?_
 .rw[Bool.not_eq_true'] at ae;refine aR λI a w U=>?_;refine U.ret rfl (.cons (.sx 1) (.cons (.t rfl) aW.nil)) ?_;exact(by rw[FC ae];rfl)
 rw[Bool.not_eq_false'] at ae;have tw:=ae;simp only[aH,Bool.and_eq_true,decide_eq_true_eq] at tw;have hm:=hg.words _ (bf (l:=x.al) (k:=e.word.toNat) om);refine ee λI a w U=>?_;refine U.alloc rfl dI eI λb6 I a w U=>?_;refine U.sb 2 λU=>?_;obtain⟨I,U⟩:=U.fb 2 6;refine nn ?_;refine St.cut (σ:=List ax) (run 23 24 []) ⟨λrd=>[],λrd=>[Own.box b2 28 [AV.int x.time,mL x.aA,dR rd,jl x.calls,kY x.seen],Own.box b4 28 [AV.val (.int .i64 0),AV.rows 7 [],AV.rows 15 [],AV.rows 13 [],AV.rows 1 []],Own.gone],λrd=>rd=iY x e⟩ U ?rR ?Cq;case rR=>
  refine py λI a w U=>?_;refine U.cd (λah=>?_) λah=>?_
  .have U:=U.jc;refine U.gw (rp 2 (([0],none)::rp 3 (([3],some (3,[38]))::([],none)::([0],none)::rp 4 [([3],some (3,[])),([],none),([0],some (0,[]))]))) aS aS rfl ?_;refine .o (uZ gf dI) ?_;refine bJ ?_;refine .r [0] (.lb 0) ?_;refine cB ?_;refine .o (AS gf dI .r .tt (λ_=>by simp only[List.length_map];omega)) ?_;refine aY.Bb 3 rfl rfl gf dI rfl .tt .r gQ ?_;refine bJ ?_;refine .r [0] (.lb 0) ?_;refine dD ?_;refine .o (G6 gf dI .r .tt (λ_=>by simp only[List.length_map];omega)) ?_;refine aY.DE 3 rfl rfl gf dI rfl .r gQ ?_;refine bJ ?_;refine aY.jn (x:=AV.any) 0 (λF W0 I0 I a w Q U kk=>U.s1 0 λU=>kk _ _ _ U) ?_;refine .nil ?_;intro I a w U;rw[<-List.map_take,<-List.map_drop,<-List.map_append,show(e.word+1).toNat=e.word.toNat+1 by omega] at U;refine bj ?_;have U:=U.drop 3;exact U.me (x.al.take e.word.toNat++x.al.drop (e.word.toNat+1)) (by first|exact(if_pos (by simpa using ah)).symm|exact(if_neg (by simpa using ah)).symm)
  refine zt ?_;have U:=U.drop 3;exact U.me x.al (by first|exact(if_pos (by simpa using ah)).symm|exact(if_neg (by simpa using ah)).symm)
 rintro rd I a w an U;obtain rfl:rd=iY x e:=an;refine aR λI a w U=>?_;refine cz (λar=>?_) λar=>?_
 .refine aR λI a w U=>?_;refine U.ret rfl (.cons (.sx 1) (.cons (.t rfl) aW.nil)) ?_;exact(by rw[vY ae,if_pos ar];rfl)
 refine aG λI a w U=>?_;refine U.o (.c1 (BA ..)) λU=>?_;refine zt ?_;refine U.cd (λaM=>?_) λaM=>?_
 .refine aG λI a w U=>?_;refine U.o (.c2 (aeK {x with al:=iY x e} (ab x.al e.word.toNat) oj ht aM)) λU=>?_;refine aF λI a w U=>?_;refine U.ret rfl (.cons (.sx 1) (.cons (.t rfl) aW.nil)) ?_;exact(by rw[vY ae,if_neg ar,if_pos aM];rfl)
 have ey:=aar hm aM;have fy:=(hg.site (ab x.al e.word.toNat).to.toNat om).2;refine zt ?_;have U:=U.jc;refine U.gw [([],none),([0],none),([],none),([],none),([],none),([],none),([],none),([],none),([],none),([],none),([],none),([3],some (3,[7])),([3],some (3,[7])),([],none)] aS aS rfl ?_;refine bJ ?_;refine .r [0] (.lb 0) ?_;refine gF ?_;refine .o (.c2 (afy (ab x.aA (ab x.al e.word.toNat).to.toNat) (ab x.al e.word.toNat) fy)) ?_;refine dD ?_;refine aY.alloc 3 rfl rfl cv dN<|aY.q7 3 rfl cv rfl .tt rfl rfl ?_;refine bJ ?_;refine .nil ?_;intro I a w U;obtain⟨b7,U⟩:=U.oL (d:=7) 3 rfl rfl;obtain⟨I,U⟩:=U.fb 3 7;refine zt ?_;refine U.l0 λb68 I a w U=>?_;refine aG λI a w U=>?_;refine U.ap 4 λv71 a w U=>?_;simp only[List.nil_append] at U;refine U.o .fv λU=>?_;try have ao7:=U.ff 4 rfl
 refine aB λI a w U=>?_;obtain⟨Co,Cp,rQ⟩:=U.j3 4 rfl pj;subst rQ;refine cj λI a w U=>?_;refine U.o (jj tL cv .tt .tt (λ_=>by simp only[List.length_map];omega)) λU=>?_;refine U.lS 4 cv .tt .tt rfl (by exact gh om) rfl rfl λa w U=>?_;refine nn<|wp_seq ?_;have e9:∀y,y=Server.cells (cK (ab x.aA (ab x.al e.word.toNat).to.toNat) (ab x.al e.word.toNat)).1->(List.map Server.cells x.aA).set (ab x.al e.word.toNat).to.toNat y=List.map Server.cells (x.aA.set (ab x.al e.word.toNat).to.toNat (cK (ab x.aA (ab x.al e.word.toNat).to.toNat) (ab x.al e.word.toNat)).1):=λy hy=>by rw[hy,List.map_set]
 rw[e9] at U;rotate_left
 .rfl
 obtain⟨I,U⟩:=U.fu 4 1 0;refine St.region ?_;refine U.l0 λb79 I a w U=>?_;refine aG λI a w U=>?_;refine U.append 5 rfl gf dI rfl .tt .r rfl (by have h9:(iY x e).length<=60:=oj.al;simp;omega) λKt a w U=>?_;simp only[List.nil_append] at U;refine U.m λU=>?_;refine U.fm [5] (Eg Kt (iY x e) (cK (ab x.aA (ab x.al e.word.toNat).to.toNat) (ab x.al e.word.toNat)).2 oj.al) (az .r (az .r aI)) rfl aN rfl λI a w U=>?_;refine cI λI a w U=>?_;refine U.ret rfl (.cons (.sx 1) (.cons (.t rfl) aW.nil)) ?_;exact(by rw[vY ae,if_neg ar,if_neg (by rw[aM];simp)];rfl)
end Go.Proofs.YtdanidpleofjgaaGreat
