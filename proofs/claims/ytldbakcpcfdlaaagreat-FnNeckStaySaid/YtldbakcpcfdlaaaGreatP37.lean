/- Part 37: contracts of functions, plain facts. -/
import Derived.Test.YtldbakcpcfdlaaaGreatP33
import Derived.Test.YtldbakcpcfdlaaaGreatP34
set_option linter.all false
set_option maxRecDepth 100000
set_option maxHeartbeats 4000000
namespace Go.Proofs.YtldbakcpcfdlaaaGreat
open Go Go.RowKit Tryz
attribute [local irreducible] wpList Code.wp Ok
def Bx {w:ai} (h:cK w=true) (e:Ev):cK (gv w e).1=true:=by
 unfold gv;split
 .rename_i hc;refine fD.2 ⟨Wo (fD.1 h).1 e hc.2,?_⟩;show(cD w e).1.time<=99999;rw[Bn];omega
 exact h
def Ht {w:ai} (h:cK w=true) (e:Ev):cK (bW w e).1=true:=by
 unfold bW;rw[if_pos h];exact Bx h e
def ajX (s:Server) (m:az) (hg:bJ s) (hm:bK m=true):
 Fn prog 288 [s.av,m.av] (AV.dG [(cN s m).1.av,dM (cN s m).2]):=by
 refine Fn.go 38 func288 ntmps288 (λW I a U=>?_);have ao:=jX.2 hg;have ja:=hg.small;refine aG λI a w U=>?_;refine U.alloc rfl cA dS λb4 I a w U=>?_;refine aG λI a w U=>?_;refine U.o (.c1 (zl s)) λU=>?_;refine aB λI a w U=>?_;refine U.cd (λae=>?_) λae=>?_
 .exfalso;rw[ao] at ae;cases ae;skip
 refine bY λI a w U=>?_;refine U.q .F (bO (MJ m (by have:=xl hm;unfold gV;omega) (by have:=xl hm;unfold gV;omega)) (ax .ag aH)) λU=>?_;refine oE λI a w U=>?_;refine U.cd (λah=>?_) λah=>?_
 .rw[Gp] at ah;replace ah:=nt ah;refine bD λI a w U=>?_;refine U.o (.c1 (vL s ja)) λU=>?_;refine aF λI a w U=>?_;refine U.ret rfl (.cons (.sx 0) (.cons (.nil (sz:=15) rfl) aV.nil)) ?_;exact(by unfold cN;rw[ah];rfl)
 rw[Gp] at ah;replace ah:=nf ah;have hu:=MW hg hm (KH ah).1;refine aG λI a w U=>?_;refine U.o (.c2 (aiW s m hg hm)) λU=>?_;refine bk λI a w U=>?_;refine U.alloc rfl cA dS λb6 I a w U=>?_;refine U.sb 1 λU=>?_;obtain⟨I,U⟩:=U.fb 1 6;refine aG λI a w U=>?_;refine U.o (.c1 (vL (dh s m).1 hu.small)) λU=>?_;refine aR λI a w U=>?_;refine U.ret rfl (.cons (.sx 0) (.cons .x aV.nil)) ?_;exact(by unfold cN;rw[ah,if_pos rfl];rfl)
def ajY (b:Nat) (x:ai) (e:Ev) (s r q z:Value) (hg:bX x) (ht:x.time<=1000000) (hk:e.kind=4):
 dp prog 233 [AV.val (.pointer (some ⟨b,0,none⟩)),e.av] (x.full b s r q z) (λ_:Value=>True) (λu=>bif (iG x e).2 then(iG x e).1.full b s u q z else[]) (λ_=>AV.bool (iG x e).2):=by
 refine dp.intro 111 func233 rfl ntmps233 rfl aO (λW I a U=>?_);change St _ _ [Own.box b 28 [AV.int x.time,AV.val s,AV.val r,AV.val q,AV.val z],Own.row s 95 7 (x.aC.map Server.cells),Own.row r 108 15 (x.al.map az.cells),Own.row q 45 13 (x.calls.map Call.cells),Own.row z 40 1 (x.seen.map gy)] _ _ _ at U;have nP:=hg.lens;have xF:=hg.seen;have Bq:=hg.time;have kK:=hg.al;have wG:=hg.aC;have qx:(jo x e).length<=60:=(Vq hg e).al;have He:(List.map az.cells x.al).length<=60:=by rw[List.length_map];exact kK
 obtain⟨bS,cS,rfl⟩:=U.ku 1 rfl lf;refine aF λI a w U=>?_;refine U.dk ?_;refine iA ?_;refine .o (tv 2 gA .tt rfl) ?_;refine bG ?_;refine .o (.cl (jI ..)) ?_;refine bG ?_;refine .nil ?_;intro I a w U;refine bm ?_;refine U.cd (λae=>?_) λae=>?_
 .rw[List.length_map] at ae;replace ae:=nt ae;refine aB λI a w U=>?_;refine U.dx (.bool false) [] rfl (.cons (.t rfl) .nil) trivial (by rw[Hb ae];rfl) (by rw[Hb ae];rfl)
 rw[List.length_map] at ae;replace ae:=nf ae;have uT:=ae;simp only[aJ,Bool.and_eq_true,decide_eq_true_eq] at uT;have hm:=hg.words _ (bh (l:=x.al) (k:=e.word.toNat) om);refine zt ?_;refine U.da 9 ?_;simp only[TD];refine iA ?_;refine .o (CE 2 gA dV .tt .tt rfl (λ_=>by rw[List.length_map];omega)) ?_;refine .o (Rk 2 dV .tt rfl (λ_=>by exact gB om) rfl) ?_;refine gW.alloc dV eU<|.nil ?_;intro I a w U;obtain⟨b5,U⟩:=U.u6 (d:=5) rfl;refine U.sb 5 λU=>?_;obtain⟨I,U⟩:=U.fb 5 5;refine nn ?_;refine St.cut (σ:=Value) (run 16 29 []) ⟨λu=>[],λu=>[Own.box b 28 [AV.int x.time,AV.val (.slice (some ⟨bS,0,none⟩) (x.aC.map Server.cells).length cS),AV.val u,AV.val q,AV.val z],Own.row (.slice (some ⟨bS,0,none⟩) (x.aC.map Server.cells).length cS) 95 7 ((x.aC).map Server.cells),Own.row u 108 15 ((jo x e).map az.cells),Own.row q 45 13 ((x.calls).map Call.cells),Own.row z 40 1 ((x.seen).map gy)],λu=>True⟩ U ?td ?D0;case td=>
  refine aR λI a w U=>?_;refine cz (λah=>?_) λah=>?_
  .refine U.gG (rp 4 (([0],none)::rp 5 (([2],some (2,[42]))::rp 2 [([0],some (0,[42]))]))) aO aO rfl ?_;refine eb ?_;refine .r [0] (.lb 0) ?_;refine fZ ?_;refine bc.Rl 2 rfl rfl (SL r x.al e.word om om om) (ax .r (ax .tt (ax .tt aH))) ?_;refine cG ?_;refine bc.Ff 0 rfl JP .tt rfl rfl<|.nil ?_;intro I a w U;change St _ _ [Own.box b 28 [AV.int x.time,AV.val (.slice (some ⟨bS,0,none⟩) (x.aC.map Server.cells).length cS),AV.val (a.tmps.getD 42 undef),AV.val q,AV.val z],Own.row (.slice (some ⟨bS,0,none⟩) (x.aC.map Server.cells).length cS) 95 7 ((x.aC).map Server.cells),Own.row (a.tmps.getD 42 undef) 108 15 ((x.al.take e.word.toNat++x.al.drop (e.word.toNat+1)).map az.cells),Own.row q 45 13 ((x.calls).map Call.cells),Own.row z 40 1 ((x.seen).map gy),Own.gone] _ _ _ at U;generalize a.tmps.getD 42 undef=p7 at U;refine bm ?_;have U:=U.drop 5;first|have U:=U.pass (H':=[Own.box b 28 [AV.int x.time,AV.val (.slice (some ⟨bS,0,none⟩) (x.aC.map Server.cells).length cS),AV.val p7,AV.val q,AV.val z],Own.row (.slice (some ⟨bS,0,none⟩) (x.aC.map Server.cells).length cS) 95 7 ((x.aC).map Server.cells),Own.row p7 108 15 ((jo x e).map az.cells),Own.row q 45 13 ((x.calls).map Call.cells),Own.row z 40 1 ((x.seen).map gy)]) (congrArg (λl:List az=>[Own.box b 28 [AV.int x.time,AV.val (.slice (some ⟨bS,0,none⟩) (x.aC.map Server.cells).length cS),AV.val p7,AV.val q,AV.val z],Own.row (.slice (some ⟨bS,0,none⟩) (x.aC.map Server.cells).length cS) 95 7 ((x.aC).map Server.cells),Own.row p7 108 15 ((l).map az.cells),Own.row q 45 13 ((x.calls).map Call.cells),Own.row z 40 1 ((x.seen).map gy)]) (show x.al.take e.word.toNat++x.al.drop (e.word.toNat+1)=jo x e from(if_pos (.inr ah)).symm))|have U:=U.pass (H':=[Own.box b 28 [AV.int x.time,AV.val (.slice (some ⟨bS,0,none⟩) (x.aC.map Server.cells).length cS),AV.val r,AV.val q,AV.val z],Own.row (.slice (some ⟨bS,0,none⟩) (x.aC.map Server.cells).length cS) 95 7 ((x.aC).map Server.cells),Own.row r 108 15 ((jo x e).map az.cells),Own.row q 45 13 ((x.calls).map Call.cells),Own.row z 40 1 ((x.seen).map gy)]) (congrArg (λl:List az=>[Own.box b 28 [AV.int x.time,AV.val (.slice (some ⟨bS,0,none⟩) (x.aC.map Server.cells).length cS),AV.val r,AV.val q,AV.val z],Own.row (.slice (some ⟨bS,0,none⟩) (x.aC.map Server.cells).length cS) 95 7 ((x.aC).map Server.cells),Own.row r 108 15 ((l).map az.cells),Own.row q 45 13 ((x.calls).map Call.cells),Own.row z 40 1 ((x.seen).map gy)]) (show x.al=jo x e from(if_neg (by rw[hk];simpa using ah)).symm))
   exact U.me p7 gM
  refine wp_skip<|bm ?_;have U:=U.drop 5;first|have U:=U.pass (H':=[Own.box b 28 [AV.int x.time,AV.val (.slice (some ⟨bS,0,none⟩) (x.aC.map Server.cells).length cS),AV.val p7,AV.val q,AV.val z],Own.row (.slice (some ⟨bS,0,none⟩) (x.aC.map Server.cells).length cS) 95 7 ((x.aC).map Server.cells),Own.row p7 108 15 ((jo x e).map az.cells),Own.row q 45 13 ((x.calls).map Call.cells),Own.row z 40 1 ((x.seen).map gy)]) (congrArg (λl:List az=>[Own.box b 28 [AV.int x.time,AV.val (.slice (some ⟨bS,0,none⟩) (x.aC.map Server.cells).length cS),AV.val p7,AV.val q,AV.val z],Own.row (.slice (some ⟨bS,0,none⟩) (x.aC.map Server.cells).length cS) 95 7 ((x.aC).map Server.cells),Own.row p7 108 15 ((l).map az.cells),Own.row q 45 13 ((x.calls).map Call.cells),Own.row z 40 1 ((x.seen).map gy)]) (show x.al.take e.word.toNat++x.al.drop (e.word.toNat+1)=jo x e from(if_pos (.inr ah)).symm))|have U:=U.pass (H':=[Own.box b 28 [AV.int x.time,AV.val (.slice (some ⟨bS,0,none⟩) (x.aC.map Server.cells).length cS),AV.val r,AV.val q,AV.val z],Own.row (.slice (some ⟨bS,0,none⟩) (x.aC.map Server.cells).length cS) 95 7 ((x.aC).map Server.cells),Own.row r 108 15 ((jo x e).map az.cells),Own.row q 45 13 ((x.calls).map Call.cells),Own.row z 40 1 ((x.seen).map gy)]) (congrArg (λl:List az=>[Own.box b 28 [AV.int x.time,AV.val (.slice (some ⟨bS,0,none⟩) (x.aC.map Server.cells).length cS),AV.val r,AV.val q,AV.val z],Own.row (.slice (some ⟨bS,0,none⟩) (x.aC.map Server.cells).length cS) 95 7 ((x.aC).map Server.cells),Own.row r 108 15 ((l).map az.cells),Own.row q 45 13 ((x.calls).map Call.cells),Own.row z 40 1 ((x.seen).map gy)]) (show x.al=jo x e from(if_neg (by rw[hk];simpa using ah)).symm))
  exact U.me r gM
 rintro u I a w ao U;refine aG λI a w U=>?_;refine U.o (.c1 (vE ..)) λU=>?_;refine zt ?_;refine U.cd (λaq=>?_) λaq=>?_
 .have eO:=jy.1 aq;have iR:=(hg.site (ab x.al e.word.toNat).to.toNat om).2;refine wp_seq ?_;have U:=U.jj;refine U.gG (rp 3 (([0],none)::rp 2 (([1],none)::([1],none)::rp 5 [([5],some (5,[6])),([5],some (5,[6])),([],none)]))) aO aO rfl ?_;refine dO ?_;refine .r [0] (.lb 0) ?_;refine cG ?_;refine .r [1] (jF vi cA .tt .tt (λ_=>by rw[List.length_map];omega)) ?_;refine .r [1] (tw 1 cA .tt rfl (λ_=>by exact gB om) rfl) ?_;refine bG ?_;refine .o (.c2 (ajX (ab x.aC (ab x.al e.word.toNat).to.toNat) (ab x.al e.word.toNat) iR hm)) ?_;refine dO ?_;refine bc.alloc 5 rfl rfl cA dS<|bc.qu 5 rfl cA rfl .tt rfl rfl ?_;refine bG ?_;refine .nil ?_;intro I a w U;obtain⟨b6,U⟩:=U.oC (d:=6) 5 rfl rfl;obtain⟨I,U⟩:=U.fb 5 6;refine zt ?_;refine U.dt 8 ?_;simp only[TD];refine mA ?_;refine .o (jF vi cA .tt .tt (λ_=>by rw[List.length_map];omega)) ?_;refine .nil ?_;intro I a w U;refine U.mn 1 cA .tt .tt rfl (by exact gB om) rfl rfl λa w U=>?_;refine wpList_nil ?_;have e9:∀y,y=Server.cells (cN (ab x.aC (ab x.al e.word.toNat).to.toNat) (ab x.al e.word.toNat)).1->(List.map Server.cells x.aC).set (ab x.al e.word.toNat).to.toNat y=List.map Server.cells (x.aC.set (ab x.al e.word.toNat).to.toNat (cN (ab x.aC (ab x.al e.word.toNat).to.toNat) (ab x.al e.word.toNat)).1):=λy hy=>by rw[hy,List.map_set]
  rw[e9] at U;rotate_left
  .rfl
  refine aG λI a w U=>?_;refine U.cY [0,2] (GF b x.time (.slice (some ⟨bS,0,none⟩) (x.aC.map Server.cells).length cS) u q z (jo x e) (cN (ab x.aC (ab x.al e.word.toNat).to.toNat) (ab x.al e.word.toNat)).2 qx (We iR hm).1 (We iR hm).2) (ax .tt (ax .r aH)) rfl aP rfl λu2 I a w asq U=>?_;refine aB λI a w U=>?_;have hR:iG x e=({x with aC:=x.aC.set (ab x.al e.word.toNat).to.toNat (cN (ab x.aC (ab x.al e.word.toNat).to.toNat) (ab x.al e.word.toNat)).1,al:=eN (jo x e) (cN (ab x.aC (ab x.al e.word.toNat).to.toNat) (ab x.al e.word.toNat)).2},true):=by rw[xC ae,if_neg (by rw[hk];decide),if_neg (by rw[adn aq];simp)]
  refine U.dx u2 [0,1,2,3,4] rfl (.cons (.t rfl) .nil) trivial (by rw[hR];rfl) (by rw[hR];rfl)
 have eO:=aev hm aq;have ajZ:=eO;simp only[aJ,Bool.and_eq_true,decide_eq_true_eq] at ajZ;refine dZ λI a w U=>?_;refine U.o (Fo (xs:=[AV.val (.pointer (some ⟨b,0,none⟩)),AV.int ((ab x.al e.word.toNat).to-10)]) (tK:=[AV.ptr [AV.int x.time,AV.val (.slice (some ⟨bS,0,none⟩) (x.aC.map Server.cells).length cS),AV.val u,iL x.calls,AV.val z],AV.int ((ab x.al e.word.toNat).to-10)]) (L0 x.calls x.time (.slice (some ⟨bS,0,none⟩) (x.aC.map Server.cells).length cS) u z ((ab x.al e.word.toNat).to-10)) (ax .tt (ax .tt aH)) (λc I a w U=>by obtain⟨I,U⟩:=U.fu 3 3 0;obtain⟨I,U⟩:=U.fb 0 0;exact⟨_,_,_,U,rfl,rfl,trivial⟩)) λU=>?_;refine aR λI a w U=>?_;refine cz (λaK=>?_) λaK=>?_
 .obtain⟨h1,h2,h3⟩:=na (show 0<=(cq x.calls ((ab x.al e.word.toNat).to-10)) by omega);have hq:=Bo (m:=(ab x.al e.word.toNat)) (hg.call h1);obtain⟨bC,cC,rfl⟩:=U.ku 3 rfl lf;refine wp_seq ?_;refine U.da 14 ?_;simp only[TD];refine fZ ?_;refine .o (jF mR eJ .tt .tt (λ_=>by rw[List.length_map];omega)) ?_;refine .o (tw 3 eJ .tt rfl (λ_=>by exact gB om) rfl) ?_;refine fZ ?_;refine .o (.c3 (ajR (ab x.calls (cq x.calls ((ab x.al e.word.toNat).to-10)).toNat) (ab x.al e.word.toNat) x.time (hg.call h1) ht hm))<|gW.alloc eJ im<|.nil ?_;intro I a w U;obtain⟨m7,U⟩:=U.u6 (d:=10) rfl;refine aB λI a w U=>?_;obtain⟨I,U⟩:=U.fb 5 10;refine U.dt 7 ?_;simp only[TD];refine iA ?_;refine .o (jF mR eJ .tt .tt (λ_=>by rw[List.length_map];omega)) ?_;refine .nil ?_;intro I a w U;refine U.mn 3 eJ .tt .tt rfl (by exact gB om) rfl rfl λa w U=>?_;refine wpList_nil ?_;have e9:∀y,y=Call.cells (cQ (ab x.calls (cq x.calls ((ab x.al e.word.toNat).to-10)).toNat) (ab x.al e.word.toNat) x.time)->(List.map Call.cells x.calls).set (cq x.calls ((ab x.al e.word.toNat).to-10)).toNat y=List.map Call.cells (x.calls.set (cq x.calls ((ab x.al e.word.toNat).to-10)).toNat (cQ (ab x.calls (cq x.calls ((ab x.al e.word.toNat).to-10)).toNat) (ab x.al e.word.toNat) x.time)):=λy hy=>by rw[hy,List.map_set]
  rw[e9] at U;rotate_left
  .rfl
  refine aR λI a w U=>?_;refine cz (λaS=>?_) λaS=>?_
  .obtain⟨bZ,cZ,rfl⟩:=U.ku 4 rfl lf;refine U.dt 8 ?_;simp only[TD];refine iA ?_;refine .o (.c1 (ML (cQ (ab x.calls (cq x.calls ((ab x.al e.word.toNat).to-10)).toNat) (ab x.al e.word.toNat) x.time) x.time (uy.2 hq))) ?_;refine .o (jF Cz qz .tt .tt (λ_=>by rw[List.length_map];omega)) ?_;refine .nil ?_;intro I a w U;refine U.Cb (j:=0) 4 qz .tt .tt (by first|exact j6 rfl|exact kg|exact kh|exact kr|assumption) rfl (by exact gB om) rfl rfl λa w U=>?_;refine wpList_nil ?_;have e8:∀y,y=gy (gJ (cQ (ab x.calls (cq x.calls ((ab x.al e.word.toNat).to-10)).toNat) (ab x.al e.word.toNat) x.time))->(List.map gy x.seen).set ((ab x.al e.word.toNat).to-10).toNat y=List.map gy (x.seen.set ((ab x.al e.word.toNat).to-10).toNat (gJ (cQ (ab x.calls (cq x.calls ((ab x.al e.word.toNat).to-10)).toNat) (ab x.al e.word.toNat) x.time))):=λy hy=>by rw[hy,List.map_set]
   rw[e8] at U;rotate_left
   .rfl
   refine aB λI a w U=>?_;have hR:iG x e=({x with al:=jo x e,calls:=x.calls.set (cq x.calls ((ab x.al e.word.toNat).to-10)).toNat (cQ (ab x.calls (cq x.calls ((ab x.al e.word.toNat).to-10)).toNat) (ab x.al e.word.toNat) x.time),seen:=x.seen.set ((ab x.al e.word.toNat).to-10).toNat (gJ (cQ (ab x.calls (cq x.calls ((ab x.al e.word.toNat).to-10)).toNat) (ab x.al e.word.toNat) x.time))},true):=by rw[xC ae,if_neg (by rw[hk];decide),if_pos eO];unfold jC;dsimp only;rw[if_neg om,if_pos aS]
   refine U.dx u [0,1,2,3,4] rfl (.cons (.t rfl) .nil) trivial (by rw[hR];rfl) (by rw[hR];rfl)
  refine aB λI a w U=>?_;have hR:iG x e=({x with al:=jo x e,calls:=x.calls.set (cq x.calls ((ab x.al e.word.toNat).to-10)).toNat (cQ (ab x.calls (cq x.calls ((ab x.al e.word.toNat).to-10)).toNat) (ab x.al e.word.toNat) x.time)},true):=by rw[xC ae,if_neg (by rw[hk];decide),if_pos eO];unfold jC;dsimp only;rw[if_neg om,if_neg om]
  refine U.dx u [0,1,2,3,4] rfl (.cons (.t rfl) .nil) trivial (by rw[hR];rfl) (by rw[hR];rfl)
 refine aB λI a w U=>?_;have hR:iG x e=({x with al:=jo x e},true):=by rw[xC ae,if_neg (by rw[hk];decide),if_pos eO];unfold jC;dsimp only;rw[if_pos om]
 refine U.dx u [0,1,2,3,4] rfl (.cons (.t rfl) .nil) trivial (by rw[hR];rfl) (by rw[hR];rfl)
def Nq (l:List Ev) (k:Nat):cK (wK l k)=true:=by
 have key:∀(m:List Ev) (x:ai),cK x=true->cK (m.foldl (λw e=>(bW w e).1) x)=true:=by
  intro m;induction m with
  |nil=>exactλx h=>h
  |cons e r ih=>
   intro x h
   rw[List.foldl_cons]
   exact ih _ (by unfold bW;rw[if_pos h];exact Bx h e)
 exact key _ _ Bf
def aj0 {l:List Ev} {k:Nat} (h:k<l.length):(gv (wK l k) (ab l k)).1=wK l (k+1):=by
 have e:∀x e,cK x=true->(gv x e).1=(bW x e).1:=λx e h=>by unfold bW;rw[if_pos h]
 rw[e _ _ (Nq l k)];unfold wK;rw[fe h,List.foldl_append];rfl
def D7 (x:ai) (h:A9 x):
 Fn prog 84 [x.av] (x.av):=by
 refine Fn.go 69 func84 ntmps84 (λW I a U=>?_);obtain⟨⟨h1,h2⟩,⟨h3,h4⟩,⟨h5,h6⟩,h7,h8⟩:=h;have U:=U.ik (sz:=7) 95;have U:=U.ik (sz:=13) 45;have U:=U.ik (sz:=1) 40;refine bD λI a w U=>?_;refine U.alloc rfl dP dW λb2 I a w U=>?_;refine zt ?_;refine U.da 7 ?_;simp only[TD];refine eb ?_;refine .o (.cl (Ld x.al h3 h4)) ?_;refine .o (.bd Ak (.k (.k aZ.nil))) ?_;refine gW.alloc dP dW<|.nil ?_;intro I a w U;obtain⟨b3,U⟩:=U.u6 (d:=3) rfl;refine aF λI a w U=>?_;refine St.lo (σ:=Nat×Value) (4::(run 18 13 [])) ⟨λ⟨k,p⟩=>[(4,AV.int k)],λ⟨k,p⟩=>[Own.row p 95 7 ((x.aC.take k).map Server.cells),Own.row (.slice none 0 0) 45 13 ([]),Own.row (.slice none 0 0) 40 1 ([]),Own.box b2 28 [AV.val (.int .i64 0),AV.rows 7 [],AV.rows 15 [],AV.rows 13 [],AV.rows 1 []],Own.box b3 28 [AV.int x.time,AV.val p,dM x.al,AV.val (.slice none 0 0),AV.val (.slice none 0 0)]],λ⟨k,p⟩=>k<=x.aC.length⟩ (λ⟨k,p⟩=>x.aC.length-k) (0,(.slice none 0 0)) U ?aI ?bF;case aI=>exact Nat.zero_le _
 rintro⟨k,p⟩ I a w ao U;have hk:k<=x.aC.length:=ao;dsimp only at U;refine cF λI a w U=>?_;refine cz (λae=>?_) λae=>?_
 .refine zt ?_;refine U.dt 9 ?_;simp only[TD];refine mA ?_;refine .o (.c1 (Dr _ (h2 _ (bh ae)))) ?_;refine .o (.li [(ab x.aC k).cells] Fy (.u .nil)) ?_;refine .nil ?_;intro I a w U;refine U.ap 0 λAw a w U=>?_;rw[cJ,<-fe ae] at U;refine U.o .fv λU=>?_;try have afp:=U.fI 0 rfl
  refine aX λI a w U=>?_;exact U.ag (k+1,Aw) (ae)
 refine wp_exit<|cB<|cB<|fo<|bm<|wp_seq<|wp_seq ?_;rw[List.take_of_length_le om] at U;refine aB λI a w U=>?_;refine St.lo (σ:=Nat×Value) (5::(run 18 31 [])) ⟨λ⟨k,q⟩=>[(5,AV.int k)],λ⟨k,q⟩=>[Own.row p 95 7 (x.aC.map Server.cells),Own.row q 45 13 ((x.calls.take k).map Call.cells),Own.row (.slice none 0 0) 40 1 ([]),Own.box b2 28 [AV.val (.int .i64 0),AV.rows 7 [],AV.rows 15 [],AV.rows 13 [],AV.rows 1 []],Own.box b3 28 [AV.int x.time,AV.val p,dM x.al,AV.val q,AV.val (.slice none 0 0)]],λ⟨k,q⟩=>k<=x.calls.length⟩ (λ⟨k,q⟩=>x.calls.length-k) (0,(.slice none 0 0)) U ?eo ?jK;case eo=>exact Nat.zero_le _
 rintro⟨k,q⟩ I a w ao U;have hk:k<=x.calls.length:=ao;dsimp only at U;refine cF λI a w U=>?_;refine cz (λah=>?_) λah=>?_
 .refine zt ?_;refine U.dt 9 ?_;simp only[TD];refine mA ?_;refine .o (.c1 (KY _ (h6 _ (bh ah)))) ?_;refine .o (.li [(ab x.calls k).cells] Fw (.u .nil)) ?_;refine .nil ?_;intro I a w U;refine U.ap 1 λKX a w U=>?_;rw[cJ,<-fe ah] at U;refine U.o .fv λU=>?_;try have asr:=U.fI 1 rfl
  refine aX λI a w U=>?_;exact U.ag (k+1,KX) (ah)
 refine wp_exit<|cB<|cB<|fo<|bm<|wp_seq<|wp_seq ?_;rw[List.take_of_length_le om] at U;refine aB λI a w U=>?_;refine St.lo (σ:=Nat×Value) (6::(run 19 49 [])) ⟨λ⟨k,r⟩=>[(6,AV.int k)],λ⟨k,r⟩=>[Own.row p 95 7 (x.aC.map Server.cells),Own.row q 45 13 (x.calls.map Call.cells),Own.row r 40 1 ((x.seen.take k).map gy),Own.box b2 28 [AV.val (.int .i64 0),AV.rows 7 [],AV.rows 15 [],AV.rows 13 [],AV.rows 1 []],Own.box b3 28 [AV.int x.time,AV.val p,dM x.al,AV.val q,AV.val r]],λ⟨k,r⟩=>k<=x.seen.length⟩ (λ⟨k,r⟩=>x.seen.length-k) (0,(.slice none 0 0)) U ?iD ?od;case iD=>exact Nat.zero_le _
 rintro⟨k,r⟩ I a w ao U;have hk:k<=x.seen.length:=ao;dsimp only at U;refine cF λI a w U=>?_;refine cz (λaq=>?_) λaq=>?_
 .refine zt ?_;refine U.dt 10 ?_;simp only[TD];refine cG ?_;refine .o (wH dX cW) ?_;refine fZ ?_;refine .o (Fg dX cW rfl .tt .r (λ_=>by have:=h8 _ (bh aq);simp;omega)) ?_;refine .o (.li [gy (ab x.seen k)] JQ (.v .nil)) ?_;refine .nil ?_;intro I a w U;refine U.ap 2 λv66 a w U=>?_;rw[cJ,<-fe aq] at U;refine U.o .fv λU=>?_;try have ass:=U.fI 2 rfl
  refine aX λI a w U=>?_;exact U.ag (k+1,v66) (aq)
 refine wp_exit<|cB<|cB<|fo<|bm<|wp_seq ?_;rw[List.take_of_length_le om] at U;obtain⟨I,U⟩:=U.fu 0 1 4;obtain⟨I,U⟩:=U.fu 1 3 4;obtain⟨I,U⟩:=U.fu 2 4 4;have U:=U.nf;refine aF λI a w U=>?_;refine U.ret rfl (.cons (.sx 3) aV.nil) ?_;rfl
def aj2 {w:ai} {e:Ev} (h:cK w=true) (ht:¬99999<=w.time) (hd:(cD w e).2=true):bX (cD w e).1:=by
 have:=Bx h e;unfold gv at this;rw[if_pos ⟨by omega,hd⟩] at this;exact(fD.1 this).1
def WG {w:ai} (h:Inv w) {i:Nat} (hi:i<4) {slot:Int} (hk:nD (sv w i) slot=true):vU w i (j9 (sv w i) slot) slot.toNat:=by
 obtain⟨_,h0,h2,h1,h9⟩:=yz hk;have kY:slot.toNat<3:=by omega
 have j7:=j1 hi;have hlen:(sv w i).aD.length=3:=(h.cT hi).aD;have xH:∀j,ab (j9 (sv w i) slot).aD j=if j=slot.toNat then⟨(ab (sv w i).aD slot.toNat).bw+1,2⟩ else ab (sv w i).aD j:=λj=>fC (by rw[hlen];exact kY)
 have lO:ab (j9 (sv w i) slot).aD slot.toNat=⟨(ab (sv w i).aD slot.toNat).bw+1,2⟩:=by rw[xH,if_pos rfl]
 have jf:=h.fits i hi _ kY;have Qp:=Mf jf h1;have vY:¬behind (sv w i) (sv w (bP i)) slot.toNat:=U0 jf h1;have ta:behind (sv w (bP i)) (sv w i) slot.toNat:=U1 jf h1;have D3:¬behind (j9 (sv w i) slot) (sv w (bP i)) slot.toNat:=by
  unfold behind;rw[lO];show¬(_+1<_\/_+1=_/\_);omega
 have aj3:behind (sv w (bP i)) (j9 (sv w i) slot) slot.toNat:=by
  left;rw[lO];show _<_+1;omega
 refine⟨A4 (h.cT hi) hk,rfl,λj hj aW=>by rw[xH,if_neg aW],λv _ _=>Iff.rfl,λv _ _=>Iff.rfl,λd _=>Iff.rfl,λd hd=>hd,?_,?_,λv hv e=>be.here hi hv,λv hv e=>h.lU i hi v hv,λv hv e=>.inl hv,λv hv e=>.inl (.inr hv),λhb=>absurd hb D3,λ_ v hv e=>?_,λhb=>absurd hb D3,λ_ v hv e=>?_,λd hd _=>h.aE i hi d hd,λ_ v hv e U=>h.q8 i hi v hv U (e▸vY),λhb=>absurd aj3 hb,λe=>by omega⟩
 .rw[lO];unfold lB ui vB;simp only[Bool.or_eq_true,Bool.and_eq_true,beq_iff_eq,bne_iff_ne,decide_eq_true_eq];simp;omega
 .rw[lO];show _<=_+1;omega
 .have:=h.p9 _ j7 v hv (by rw[jA,e];exact ta);rwa[jA] at this
 have:=h.te _ j7 v hv (by rw[jA,e];exact ta);rwa[jA] at this
def aj4 {w:ai} {m:az} (hk:m.kind=5) (h:∃v,m.an=[v]/\be w (m.aT/2).toNat v/\bM v.ar.site=m.aT/2):eL w m:=by
 constructor<;>intro e<;>first|exact h|(rw[hk] at e;exact absurd e aP)
def Inv.Hu {w:ai} (h:Inv w) {σ:Nat} {v:aA} (hv:be w σ v):dN v=true:=by
 obtain⟨i,hi,_,hv⟩:=hv;exact jn (h.cT hi) (.inl hv)
def WH {w:ai} {i:Nat} (hi:i<4) {s:Server} (U:sv w i=s) (jQ:s.site=(i:Int)) {slot:Int} (h0:0<=slot) (bj:(ab s.aD slot.toNat).cm=2):eL w (gS s slot):=by
 refine ah0 rfl ?_;have e:(gS s slot).aT.toNat=i:=by show s.site.toNat=i;rw[jQ];omega
 rw[e,U];exact⟨hi,.inr (afz h0 bj)⟩
def aj5 {w:ai} (h:Inv w) {i:Nat} (hi:i<4):∀m∈ic (sv w i),eL w m:=by
 have U:=h.cT hi;have jQ:=h.site hi;intro m hm;unfold ic at hm;split at hm
 .rcases List.mem_append.1 hm with hm|hm
  .rcases List.mem_append.1 hm with hm|hm
   .obtain⟨k,hk,rfl⟩:=List.mem_map.1 hm;have eR:=(List.mem_filter.1 hk).2;exact WH hi rfl jQ (Int.natCast_nonneg _) (by rw[Int.toNat_natCast];simpa using eR)
   obtain⟨ws,h1,h2⟩:=List.mem_flatten.1 hm;obtain⟨d,hd,rfl⟩:=List.mem_map.1 h1;obtain⟨x,hx,e⟩:=U.lN d hd;have hv:∃v,eK (sv w i).an d=some v:=by
    have:=Ma (sv w i).an d;rw[show decide (0<=placeOf (sv w i).an d)=true from decide_eq_true (nC.2 ⟨x,hx,e⟩)] at this;exact Option.isSome_iff_exists.1 this
   obtain⟨v,hv⟩:=hv;have jD:=AJ hv;have ho:=h.aE i hi d hd;have key:∀t:Int,eL w {cn with kind:=5,aT:=(sv w i).site,to:=t,an:=(eK (sv w i).an d).toList}:=λt=>by
    refine aj4 rfl ⟨v,by show(eK (sv w i).an d).toList=[v];rw[hv];rfl,?_,?_⟩
    .show be w ((sv w i).site/2).toNat v;rw[jQ,show((i:Int)/2).toNat=i/2 by omega];exact be.here hi jD.1
    show bM v.ar.site=(sv w i).site/2;rw[show v.ar=d.ar from congrArg aw.ar jD.2,ho,jQ];omega
   unfold jN at h2;split at h2
   .rcases List.mem_cons.1 h2 with rfl|h2
    .exact key _
    obtain rfl:m=_:=by simpa using h2
    exact key _
   simp at h2
  obtain⟨d,_,rfl⟩:=List.mem_map.1 hm;exact ahY rfl
 simp at hm
def WI {w:ai} (h:Inv w) {i:Nat} (hi:i<4):pf w i (l8 (sv w i)) none:=
 ⟨Sa (h.cT hi),rfl,rfl,λv hv=>hv,λv hv=>.inr hv,λv hv=>.inl hv,λv hv=>.inl hv,λv hv _=>hv,λd hd=>.inl hd,λd hd=>.inl hd,λd hd=>.inl hd,λv e=>by cases e⟩
def WJ {w:ai} (h:Inv w) {i:Nat} (hi:i<4):pf w i (mE (sv w i)) none:=
 ⟨Sb (h.cT hi),rfl,rfl,λv hv=>hv,λv hv=>.inr hv,λv hv=>.inl hv,λv hv=>.inl hv,λv hv _=>hv,λd hd=>absurd hd (by simp[mE]),λd hd=>.inl hd,λd hd=>.inl hd,λv e=>by cases e⟩
def Inv.server {w:ai} (h:Inv w) (e:Ev) (ha:cM e.at_=true):Inv (fG w e).1:=by
 obtain⟨hi,_,_,hn⟩:=AL ha;have Br:=h.cT hi;have jQ:=h.site hi;unfold fG;dsimp only;split
 .exact(WI h hi).inv h hi
 split
 .exact(WJ h hi).inv h hi
 split
 .exact h.send (G9 Br) (aj5 h hi)
 split
 .rename_i hk;obtain⟨_,h0,h2,h1,h9⟩:=yz hk;have tr:=WG h hi hk;have h3:=tr.inv h hi om;have bj:(ab (j9 (sv w e.at_.toNat) e.slot).aD e.slot.toNat).cm=2:=by
   show(ab ((sv w e.at_.toNat).aD.set e.slot.toNat _) e.slot.toNat).cm=2;rw[fC (by rw[Br.aD];omega),if_pos rfl]
  refine h3.send (ws:=[gS (j9 (sv w e.at_.toNat) e.slot) e.slot]) (λm hm=>?_) λm hm=>?_
  .obtain rfl:m=_:=by simpa using hm
   exact GI (A4 Br hk) h0 h2
  obtain rfl:m=_:=by simpa using hm
  exact WH (s:=j9 (sv w e.at_.toNat) e.slot) hi (o7 h.aN hi _) jQ h0 bj
 exact h
def Inv.step {w:ai} (h:Inv w) (e:Ev) (ao:(cD w e).2=true):Inv (cD w e).1:=by
 have h1:Inv {w with time:=w.time+1}:=h.frame rfl rfl rfl h.aN.later h.words;unfold cD at*;dsimp only at ao⊢;split
 .rename_i hk;rw[if_pos hk] at ao;exact h1.aj e ao
 split
 .exact h1.al e
 split
 .rename_i hk;rw[Bool.and_eq_true] at hk;exact h1.server e hk.2
 exact h1
def Nr:Inv dT:=by
 have h0:∀i,i<4->(sv dT i).an=[]/\(sv dT i).waits=[]/\(sv dT i).aE=[]/\(sv dT i).ba=[]:=by decide
 have hv:∀σ v,¬be dT σ v:=λσ v ⟨i,hi,_,h⟩=>by rw[(h0 i hi).1] at h;simp at h
 refine⟨(fD.1 Bf).1,by decide,λi hi v h=>?_,λi hi v h=>?_,λi hi v h=>?_,λi hi v h=>?_,λi hi v h=>?_,λi hi v h=>?_,λi hi v h=>?_,λσ v h=>absurd h (hv σ v),λσ _ u _ h=>absurd h (hv σ u),λσ _ u _ h=>absurd h (hv σ u),λσ v h=>absurd h (hv σ v),λq hq=>by simp[dT] at hq,λq hq=>by simp[dT] at hq,?_,λq hq=>by simp[dT] at hq,λi hi=>by simp[dT] at hi,?_,λm hm=>by simp[dT] at hm⟩
 .rw[(h0 i hi).1] at h;simp at h
 .rw[(h0 i hi).2.1] at h;simp at h
 .rw[(h0 i hi).1] at h;simp at h
 .rw[(h0 i hi).2.1] at h;simp at h
 .rw[(h0 i hi).2.2.2] at h;simp at h
 .rw[(h0 i hi).2.2.1] at h;simp at h
 .rw[(h0 i hi).1] at h;simp at h
 .intro k hk;have:ab dT.seen k=[]:=by revert k;decide
  rw[this];intro d hd;simp at hd
 intro k hk _;revert k;decide
def Inv.gv {w:ai} (h:Inv w) (e:Ev):Inv (gv w e).1:=by
 unfold Go.Proofs.YtldbakcpcfdlaaaGreat.gv;split
 .rename_i hc;exact h.step e hc.2
 exact h
def kH {w:ai} (h:Inv w) {σ:Nat} (hσ:σ<2) {v:aA}:v∈cg w (σ:Int)↔be w σ v:=by
 have e0:(2*(σ:Int)).toNat=2*σ:=by omega
 have e1:(2*(σ:Int)+1).toNat=2*σ+1:=by omega
 have he:cg w (σ:Int)=(sv w (2*σ+1)).an.foldl er (sv w (2*σ)).an:=by unfold cg sv;rw[e0,e1]
 rw[he];have fwd:∀{x},x∈(sv w (2*σ+1)).an.foldl er (sv w (2*σ)).an->be w σ x:=λ{x} hx=>by
  rcases w4 hx with hx|hx
  .exact⟨2*σ+1,by omega,by omega,hx⟩
  exact⟨2*σ,by omega,by omega,hx⟩
 refine⟨fwd,λ⟨i,hi,e,hv⟩=>?_⟩;have jg:i=2*σ\/i=2*σ+1:=by omega
 rcases jg with rfl|rfl
 .exact Ml hv
 obtain⟨x,hx,e2⟩:=U6 (out:=(sv w (2*σ)).an) hv;have:=h.uniq _ _ x v (fwd hx) ⟨_,hi,e,hv⟩ e2;rwa[this] at hx
def zB {w:ai} (h:Inv w) {σ:Nat} (hσ:σ<2):VS (cg w (σ:Int)):=by
 unfold cg;refine GG (pU ?_);have:(2*(σ:Int)).toNat<4:=by omega
 exact(h.cT this).an
def aj6 {w:ai} (h:Inv w) {σ:Nat} (hσ:σ<2) {v:aA} (hv:be w σ v):eK (cg w (σ:Int)) v.aU=some v:=by
 have hp:=nC.2 ⟨v,(kH h hσ).2 hv,rfl⟩;unfold eK;rw[if_pos hp];obtain⟨h1,h2⟩:=l7 hp;exact congrArg some (h.uniq _ _ _ _ ((kH h hσ).1 (bh h1)) hv h2)
def aj7 {w:ai} (h:Inv w) {q:Call} (hq:q∈w.calls) (he:q.end_≠0) {a b:Answer} (ha:a∈q.au) (hb:b∈q.au):bQ a.aY.ar (bI b.aY.aQ a.key)=false:=by
 obtain⟨i,hi,rfl⟩:=fS hq;have hg:=h.aN.call hi;have hk:(ab w.calls i).kind≠1:=λe=>by rw[(hg.put e).1] at ha;simp at ha
 obtain⟨_,_,hn,_,hl⟩:=hg.ended he;obtain⟨C,c1,c2,c3⟩:=(h.au _ hq).full hk (hl hk);have:=(c2 a ha).resolve_right (by rw[hn];simp);exact C8 (c1 b hb a.key) this
def aj8 {w:ai} (h:Inv w) {q:Call} (hq:q∈w.calls) (hk:q.kind=1) (he:q.end_≠0):∃v,eK (cg w q.aj) ⟨ab q.keys 0,q.ar⟩=some v/\v.aQ=q.ctx/\v.val=q.val/\v.aj=q.aj/\v.call=q.num:=by
 obtain⟨v,v1,v2,v3,v4,v5⟩:=h.done _ hq hk he;obtain⟨p,hp,c1,c2,c3,c4,c5,c6⟩:=h.made _ v v1;have zy:=DW h.aN hp hq (by rw[c1,v2]) (by rw[c2,v3]);subst zy;have hc:=pe h.aN hq;have:=aj6 h hc.1 v1;rw[hc.2] at this;refine⟨v,?_,c6.symm,c5.symm,v2,v3⟩;rw[<-v4,<-v5];exact this
def aj9 {w:ai} (h:Inv w) {σ:Nat} (hσ:σ<2) {i j:Nat} (j5:i<j) (hj:j<(cg w (σ:Int)).length):¬((ab (cg w (σ:Int)) j).aj=(ab (cg w (σ:Int)) i).aj/\(ab (cg w (σ:Int)) j).call=(ab (cg w (σ:Int)) i).call):=λ⟨h1,h2⟩=>by
 have:=h.once _ _ _ _ ((kH h hσ).1 (bh hj)) ((kH h hσ).1 (bh (k:=i) om)) h1 h2;exact Kh (zB h hσ) hj om om (congrArg aA.aU this)
def WK {w:ai} (h:Inv w) (e:Ev) {σ:Nat} {v:aA} (hv:be w σ v):be (cD w e).1 σ v:=by
 have h1:Inv {w with time:=w.time+1}:=h.frame rfl rfl rfl h.aN.later h.words;have zw:be {w with time:=w.time+1} σ v:=hv;have same:∀x:ai,x.aC=w.aC->be x σ v:=λx hx=>by
  obtain⟨i,a,b,d⟩:=hv;exact⟨i,a,b,by unfold sv at*;rw[hx];exact d⟩
 unfold cD;dsimp only;split
 .apply same;unfold g7 kb;dsimp only;repeat' split
  all_goals rfl
 split
 .unfold iG;dsimp only;split
  .rename_i hr;simp only[aJ,Bool.and_eq_true,decide_eq_true_eq] at hr;have dr:ab w.al e.word.toNat∈w.al:=bh om;have hm:=h.aN.words _ dr;split
   .apply same;split<;>rfl
   split
   .apply same;unfold jC;dsimp only;repeat' split
    all_goals rfl
   rename_i bq;have eO:0<=(ab w.al e.word.toNat).to/\(ab w.al e.word.toNat).to<=3:=by
    have:=(ma hm).2.2.1;simp only[lH,cM,aJ,Bool.or_eq_true,Bool.and_eq_true,decide_eq_true_eq] at this bq;omega
   exact(Wy h1 (i:=(ab w.al e.word.toNat).to.toNat) om (m:=ab w.al e.word.toNat) om ((h1.words _ dr))).ext.eC zw
  exact hv
 split
 .rename_i hk;rw[Bool.and_eq_true] at hk;obtain⟨hi,_,_,_⟩:=AL hk.2;unfold fG;dsimp only;split
  .exact((WI h1 hi).ext h1 hi).eC zw
  split
  .exact((WJ h1 hi).ext h1 hi).eC zw
  split
  .exact hv
  split
  .rename_i eR;exact((WG h1 hi eR).ext h1 hi).eC zw
  exact hv
 exact hv
def WL {R:ai->Prop} (h0:R dT) (l:List Ev) (U:∀w e,e∈l->Inv w->w.time<=99999->R w->R (gv w e).1):R (cx l)/\Inv (cx l)/\(cx l).time<=99999:=by
 unfold cx;split
 .exact⟨h0,Nr,by decide⟩
 have key:∀(m:List Ev) (w:ai),(∀e∈m,e∈l)->R w->Inv w->w.time<=99999->R (m.foldl (λw e=>(bW w e).1) w)/\Inv (m.foldl (λw e=>(bW w e).1) w)/\(m.foldl (λw e=>(bW w e).1) w).time<=99999:=by
  intro m;induction m with
  |nil=>exactλw _ h1 h2 h3=>⟨h1,h2,h3⟩
  |cons e r ih=>
   intro w hm h1 h2 h3
   rw[List.foldl_cons]
   have e1:bW w e=gv w e:=by unfold bW;rw[if_pos (fD.2 ⟨h2.aN,h3⟩)]
   rw[e1]
   have h4:(gv w e).1.time<=99999:=by
    unfold gv;split
    .rename_i hc;rw[Bn];omega
    exact h3
   exact ih _ (λx hx=>hm x (by simp[hx])) (U w e (hm e bn) h2 h3 h1) (h2.gv e) h4
 exact key l dT (λ_ h=>h) h0 Nr aP
def D8 (l:List Ev):Inv (cx l)/\(cx l).time<=99999:=(WL (R:=λ_=>True) trivial l λ_ _ _ _ _ _=>trivial).2
def aka {R:ai->Prop} (h0:R dT) (l:List Ev) (U:∀w e,e∈l->bX w->w.time<=99999->R w->R (gv w e).1):R (cx l)/\cK (cx l)=true:=by
 unfold cx;split
 .exact⟨h0,Bf⟩
 have key:∀(m:List Ev) (w:ai),(∀e∈m,e∈l)->R w->cK w=true->R (m.foldl (λw e=>(bW w e).1) w)/\cK (m.foldl (λw e=>(bW w e).1) w)=true:=by
  intro m;induction m with
  |nil=>exactλw _ h1 h2=>⟨h1,h2⟩
  |cons e r ih=>
   intro w hm h1 h2
   rw[List.foldl_cons]
   have e1:bW w e=gv w e:=by unfold bW;rw[if_pos h2]
   rw[e1]
   have hg:=fD.1 h2
   exact ih _ (λx hx=>hm x (by simp[hx])) (U w e (hm e bn) hg.1 hg.2 h1) (Bx h2 e)
 exact key l dT (λ_ h=>h) h0 Bf
def D9 (l:List Ev):cK (cx l)=true:=(aka (R:=λ_=>True) trivial l λ_ _ _ _ _ _=>trivial).2
def akb (w:ai) (e:Ev):((cD w e).1.aC=w.aC/\ur w.calls (cD w e).1.calls)\/((cD w e).1.calls=w.calls/\∃i s,(cD w e).1.aC=w.aC.set i s):=by
 show _\/((cD w e).1.calls=w.calls/\_);have U:({w with time:=w.time+1}:ai).aC=w.aC:=rfl;have hc:({w with time:=w.time+1}:ai).calls=w.calls:=rfl;unfold cD;dsimp only;revert U hc;generalize ({w with time:=w.time+1}:ai)=x;intro U hc;rw[<-U,<-hc];clear U hc w;split
 .left;unfold g7;split
  .unfold kb;split
   .exact⟨rfl,.inr (.inl ⟨_,rfl⟩)⟩
   exact⟨rfl,.inl rfl⟩
  dsimp only;split
  .exact⟨rfl,.inl rfl⟩
  rename_i hn;obtain⟨a1,_,a3⟩:=na (l:=x.calls) (aj:=e.aj) om;split
  .exact⟨rfl,.inr (.inr ⟨_,_,a1,a3,rfl⟩)⟩
  exact⟨rfl,.inl rfl⟩
 split
 .unfold iG;split
  .have hc:(if e.kind=5\/e.gi=0 then{x with al:=x.al.take e.word.toNat++x.al.drop (e.word.toNat+1)} else x).calls=x.calls:=by split<;>rfl
   have U:(if e.kind=5\/e.gi=0 then{x with al:=x.al.take e.word.toNat++x.al.drop (e.word.toNat+1)} else x).aC=x.aC:=by split<;>rfl
   dsimp only;revert hc U;generalize (if e.kind=5\/e.gi=0 then{x with al:=x.al.take e.word.toNat++x.al.drop (e.word.toNat+1)} else x)=y;intro hc U;split
   .exact .inl ⟨U,.inl hc⟩
   split
   .left;unfold jC;dsimp only;split
    .exact⟨U,.inl hc⟩
    rename_i hn;obtain⟨a1,_,a3⟩:=na (l:=y.calls) (aj:=(ab x.al e.word.toNat).to-10) om;have:=hc;split
    .exact⟨U,.inr (.inr ⟨_,_,by rw[<-hc];exact a1,by rw[<-hc];exact a3,by rw[<-hc]⟩)⟩
    exact⟨U,.inr (.inr ⟨_,_,by rw[<-hc];exact a1,by rw[<-hc];exact a3,by rw[<-hc]⟩)⟩
   exact .inr ⟨hc,_,_,rfl⟩
  exact .inl ⟨rfl,.inl rfl⟩
 split
 .unfold fG;dsimp only;split
  .exact .inr ⟨rfl,_,_,rfl⟩
  split
  .exact .inr ⟨rfl,_,_,rfl⟩
  split
  .exact .inl ⟨rfl,.inl rfl⟩
  split
  .exact .inr ⟨rfl,_,_,rfl⟩
  exact .inl ⟨rfl,.inl rfl⟩
 exact .inl ⟨rfl,.inl rfl⟩
def akc (w:ai) (e:Ev):ur w.calls (cD w e).1.calls:=by
 rcases akb w e with h|h
 .exact h.2
 exact .inl h.1
def Hv {w:ai} (h:cK w=true) (e:Ev):bW w e=gv w e:=by unfold bW;rw[if_pos h]
def By (l:List Ev):A9 (cx l):=(fD.1 (D9 l)).1.small
def akd {w:ai} (h:Inv w) {i:Nat} (hi:i<4) {m:az} (hm:bK m=true) (he:1<=m.bw) (hf:yG (sv w (bP i)) m) (hb:pQ (sv w i) m=true):bJ (jB (sv w i) m):=by
 have U:=h.cT hi;have ht:=h.cT (j1 hi);have ka:=qJ hm;have uF:=nH hm;obtain⟨f1,f2,f3,f4⟩:=hf;unfold pQ at hb;simp only[Bool.and_eq_true,decide_eq_true_eq] at hb;obtain⟨⟨b1,b2⟩,b3⟩:=hb;have hlen:(sv w i).aD.length=3:=U.aD;have hv:∀v,v∈(jB (sv w i) m).an↔(v∈(sv w i).an/\cV v.key≠m.slot)\/v∈m.an:=λv=>
  (GL (s:=sv w i) hm (l:=(eh (sv w i) m.slot).an) (vs:=m.an) (λv hv=>(Dk.1 hv).2) (λv hv=>((f2 v).1 hv).2) uF.1 v).trans (or_congr Dk Iff.rfl)
 have tf:∀v,v∈(jB (sv w i) m).waits↔(v∈(sv w i).waits/\cV v.key≠m.slot)\/v∈m.waits:=λv=>
  (GL (s:=sv w i) hm (l:=(eh (sv w i) m.slot).waits) (vs:=m.waits) (λv hv=>(Dl.1 hv).2) (λv hv=>((f3 v).1 hv).2) uF.2.1 v).trans (or_congr Dl Iff.rfl)
 have ho:∀d,d∈(jB (sv w i) m).aE↔(d∈(sv w i).aE/\cV d.key≠m.slot)\/d∈m.aE:=λd=>L1.trans (or_congr K2 Iff.rfl);have bj:∀key:Int,du key=true->cP (jB (sv w i) m) key=if cV key=m.slot then 1 else cP (sv w i) key:=λkey hk=>by
  have hk:=Gy hk;unfold cP;show(ab ((sv w i).aD.set m.slot.toNat ⟨m.bw,1⟩) _).cm=_;rw[fC (by rw[hlen];omega)];by_cases e:cV key=m.slot
  .rw[if_pos (by rw[e]),if_pos e]
  rw[if_neg om,if_neg e]
 have Be:∀v,dN v=true->cP (sv w i) v.key≠0\/cV v.key=m.slot->cP (jB (sv w i) m) v.key≠0:=λv hv h=>by
  rw[bj _ (iW hv).1];split
  .decide
  rename_i aW;exact h.resolve_right aW
 refine⟨U.site,?_,UM (yu U.an (List.filter_sublist)) uF.1 b1,UM (yu U.waits (List.filter_sublist)) uF.2.1 b2,Vy (Df U.aE (List.filter_sublist)) (xe.1 uF.2.2.1).2.1 b3,U.ba,U.up,?_,?_,?_,?_,?_,?_⟩
 .show((sv w i).aD.set _ _).length=3;rw[List.length_set];exact hlen
 .intro x hx;rcases List.mem_or_eq_of_mem_set hx with hx|rfl
  .exact U.aN x hx
  have:=(ma hm).2.2.2.2.2.2.2.2.2.1;exact uc.2 ⟨this.1,this.2,by show(0:Int)<=1;decide,by show(1:Int)<=2;decide,λ_ e=>by rw[show m.bw=0 from e] at he;omega⟩
 .intro v qA;rcases(hv v).1 qA with h1|h1
  .exact Be v (fw U.an v h1.1) (.inl (U.here v h1.1))
  exact Be v (fw uF.1 v h1) (.inr ((f2 v).1 h1).2)
 .intro v qA;rcases(tf v).1 qA with h1|h1
  .exact Be v (fw U.waits v h1.1) (.inl (U.oK v h1.1))
  exact Be v (fw uF.2.1 v h1) (.inr ((f3 v).1 h1).2)
 .intro v qA;rcases(tf v).1 qA with h1|h1
  .exact U.oL v h1.1
  have:=ht.oL v ((f3 v).1 h1).1;show bM v.ar.site≠bM (sv w i).site;rw[h.site (j1 hi)] at this;rw[h.site hi];have e:bM ((bP i:Nat):Int)=bM ((i:Nat):Int):=by
   rw[(ue (jy.2 ⟨by omega,by have:=j1 hi;omega⟩)).1,(ue (n:=(i:Int)) (jy.2 ⟨by omega,by omega⟩)).1];have:=ou i;omega
  rwa[e] at this
 .intro v qA x hx;have gH:x.aU=v.aU->x.key=v.key:=λe=>congrArg aw.key e;rcases(tf v).1 qA with h1|h1<;>rcases(hv x).1 hx with h2|h2
  .exact U.apart v h1.1 x h2.1
  .exactλe=>h1.2 (by rw[<-gH e];exact((f2 x).1 h2).2)
  .exactλe=>h2.2 (by rw[gH e];exact((f3 v).1 h1).2)
  exact ht.apart v ((f3 v).1 h1).1 x ((f2 x).1 h2).1
 intro d hd;rcases(ho d).1 hd with h1|h1
 .obtain⟨x,hx,e⟩:=U.lN d h1.1;exact⟨x,(hv x).2 (.inl ⟨hx,by rw[show x.key=d.key from congrArg aw.key e];exact h1.2⟩),e⟩
 obtain⟨x,hx,e⟩:=ht.lN d ((f4 d).1 h1).1;exact⟨x,(hv x).2 (.inr ((f2 x).2 ⟨hx,by rw[show x.key=d.key from congrArg aw.key e];exact((f4 d).1 h1).2⟩)),e⟩
def vZ {w:ai} (h:Inv w) {l:List aw} (hn:l.Pairwise λa b=>a≠b) (hv:∀d∈l,∃σ u,be w σ u/\u.aU=d):l.length<=20:=by
 have hc:=(pb.1 h.aN.calls).1;refine Nat.le_trans (DF (P:=λd i=>∃σ u,be w σ u/\u.aU=d/\(ab w.calls i).aj=u.aj/\(ab w.calls i).num=u.call) ?_ w.calls.length hn λd hd=>?_) hc
 .rintro x y i ⟨σ,u,u1,u2,u3,u4⟩ ⟨τ,v,v1,v2,v3,v4⟩;rw[<-u2,<-v2,h.once σ τ u v u1 v1 (u3.symm.trans v3) (u4.symm.trans v4)]
 obtain⟨σ,u,hu,e⟩:=hv d hd;obtain⟨q,hq,c1,c2,_⟩:=h.made σ u hu;obtain⟨i,hi,rfl⟩:=fS hq;exact⟨i,hi,σ,u,hu,e,c1,c2⟩
def Ns {w:ai} (h:Inv w) {i:Nat} (hi:i<4):(sv w i).an.length<=20:=by
 have:=vZ h (Mm (pU (h.cT hi).an)) λd hd=>by
  obtain⟨v,hv,rfl⟩:=List.mem_map.1 hd;exact⟨_,v,.here hi hv,rfl⟩
 rwa[List.length_map] at this
def WM {w:ai} (h:Inv w) {i:Nat} (hi:i<4):(sv w i).waits.length<=20:=by
 have:=vZ h (Mm (pU (h.cT hi).waits)) λd hd=>by
  obtain⟨v,hv,rfl⟩:=List.mem_map.1 hd;exact⟨_,v,h.lU i hi v hv,rfl⟩
 rwa[List.length_map] at this
def WN {w:ai} (h:Inv w) {i:Nat} (hi:i<4):(sv w i).aE.length<=20:=vZ h (DH (h.cT hi).aE) λd hd=>by
 obtain⟨x,hx,e⟩:=(h.cT hi).lN d hd;exact⟨_,x,.here hi hx,e⟩
def ake {w:ai} (h:Inv w) {i:Nat} (hi:i<4):(sv w i).ba.length<=20:=vZ h (DH (h.cT hi).ba) λd hd=>by
 obtain⟨u,e,hu⟩:=h.ba i hi d hd;exact⟨_,u,hu,e⟩
def akf {w:ai} (h:Inv w) {i:Nat} (hi:i<4) {m:az} (g:eL w m) {v:aA} (hv:v∈(cN (sv w i) m).1.an\/v∈(cN (sv w i) m).1.waits):(∃τ,be w τ v)\/DS (sv w i) m v:=by
 have U:∀v,v∈(sv w i).an\/v∈(sv w i).waits->∃τ,be w τ v:=λv hv=>hv.elim (λh1=>⟨_,.here hi h1⟩) λh1=>⟨_,h.lU i hi v h1⟩;have dz:v∈(sv w i).an\/v∈(sv w i).waits->(∃τ,be w τ v)\/DS (sv w i) m v:=λhv=>.inl (U v hv);have st:∀{s:Server},(v∈(ef s).an\/v∈(ef s).waits)->v∈s.an\/v∈s.waits:=λ{s} hv=>hv.elim (λh1=>K3.1 v h1) λh1=>.inr (K3.2 v h1);unfold cN at hv;split at hv
 .unfold dh at hv;split at hv
  .rename_i mw;unfold gC at hv;split at hv
   .rename_i eH;simp only[Bool.and_eq_true] at eH;split at hv
    .exact dz hv
    rename_i ki;split at hv
    .rename_i hc;simp only[Bool.and_eq_true] at hc;rcases st hv with h1|h1
     .rcases hC.1 h1 with rfl|h1
      .exact .inr ⟨mw,rfl,hc.1.1,ki,eH.2⟩
      exact dz (.inl h1)
     exact dz (.inr h1)
    exact dz hv
   exact dz hv
  split at hv
  .exact dz hv
  split at hv
  .rename_i hk5;unfold gu at hv;split at hv
   .dsimp only at hv;split at hv
    .split at hv
     .rcases st hv with h1|h1
      .exact dz (.inl h1)
      rcases hC.1 h1 with rfl|h1
      .obtain⟨u,e,hu,_⟩:=g.k5 hk5;rw[e];exact .inl ⟨_,hu⟩
      exact dz (.inr h1)
     exact dz hv
    exact dz (st hv)
   exact dz hv
  split at hv
  .unfold jw at hv;split at hv<;>exact dz hv
  split at hv
  .exact dz hv
  split at hv
  .unfold ib at hv;split at hv
   .exact dz (st (s:={sv w i with ba:=eA (sv w i).ba ⟨m.key,m.ar⟩}) hv)
   exact dz hv
  split at hv
  .rename_i hk9;unfold gq at hv;split at hv
   .rename_i hc;rw[Bool.and_eq_true,beq_iff_eq] at hc;obtain⟨f1,_⟩:=Bv h hi hc.1;split at hv
    .exact dz hv
    rename_i aW;split at hv
    .obtain⟨_,h9⟩:=g.k9 hk9;rw[f1,jA] at h9;obtain⟨_,v2,v3,_⟩:=h9.resolve_left aW;have ht:=j1 hi;rcases st hv with h1|h1
     .rcases w4 h1 with h1|h1
      .exact .inl ⟨_,.here ht ((v2 v).1 h1).1⟩
      exact dz (.inl (List.mem_filter.1 h1).1)
     rcases w4 h1 with h1|h1
     .exact .inl ⟨_,h.lU _ ht v ((v3 v).1 h1).1⟩
     exact dz (.inr (List.mem_filter.1 h1).1)
    exact dz hv
   exact dz hv
  split at hv
  .unfold jL at hv;split at hv
   .rcases st hv with h1|h1
    .exact dz (.inl (List.mem_filter.1 h1).1)
    exact dz (.inr (List.mem_filter.1 h1).1)
   exact dz hv
  exact dz hv
 exact dz hv
def Hw {w:ai} (h:Inv w) (e:Ev) {σ:Nat} {v:aA} (hv:be (cD w e).1 σ v):(∃τ,be w τ v)\/∃(i:Nat) (m:az),i<4/\m∈w.al/\m.to=(i:Int)/\DS (sv w i) m v:=by
 have hg:=h.aN;have key:∀{x:ai},x.aC=w.aC->be x σ v->∃τ,be w τ v:=λe ⟨i,h1,h2,h3⟩=>by
  refine⟨σ,i,h1,h2,?_⟩;unfold sv at*;rwa[<-e]
 have set:∀{x:ai} {j:Nat} {s:Server},j<4->x.aC=w.aC.set j s->be x σ v->(∃τ,be w τ v)\/v∈s.an:=λ{x j s} hj e ⟨i,h1,h2,h3⟩=>by
  unfold sv at h3;rw[e,fC (by rw[hg.aC];exact hj)] at h3;split at h3
  .exact .inr h3
  exact .inl ⟨_,i,h1,rfl,h3⟩
 revert hv;unfold cD;dsimp only;split
 .intro hv;refine .inl (key ?_ hv);unfold g7;split
  .unfold kb;split<;>rfl
  dsimp only;split
  .rfl
  split<;>rfl
 split
 .unfold iG;split
  .rename_i hr;simp only[aJ,Bool.and_eq_true,decide_eq_true_eq] at hr;have bz:e.word.toNat<w.al.length:=by have:=hr.2;have:=hr.1;show e.word.toNat<w.al.length;omega
   have dr:ab w.al e.word.toNat∈w.al:=bh bz;have hm:=hg.words _ dr;dsimp only;split
   .intro hv;refine .inl (key ?_ hv);split<;>rfl
   split
   .intro hv;refine .inl (key ?_ hv);show(jC _ _).aC=_;rw[LN];split<;>rfl
   rename_i bq;have eO:0<=(ab w.al e.word.toNat).to/\(ab w.al e.word.toNat).to<=3:=by
    have:=(ma hm).2.2.1;simp only[lH,cM,aJ,Bool.or_eq_true,Bool.and_eq_true,decide_eq_true_eq] at this bq;omega
   intro hv;rcases set (j:=(ab w.al e.word.toNat).to.toNat) om rfl hv with h1|h1
   .exact .inl h1
   rcases akf h (i:=(ab w.al e.word.toNat).to.toNat) om (h.words _ dr) (.inl h1) with h2|h2
   .exact .inl h2
   exact .inr ⟨(ab w.al e.word.toNat).to.toNat,_,by omega,dr,by omega,h2⟩
  exactλhv=>.inl (key rfl hv)
 split
 .rename_i eR;rw[Bool.and_eq_true] at eR;obtain⟨hi,_,_,_⟩:=AL eR.2;have same:∀{x:ai} {s:Server},x.aC=w.aC.set e.at_.toNat s->s.an=(sv w e.at_.toNat).an->be x σ v->∃τ,be w τ v:=λ{x s} e1 e2 hv=>by
   rcases set hi e1 hv with h1|h1
   .exact h1
   rw[e2] at h1;exact⟨_,.here hi h1⟩
  unfold fG;dsimp only;split
  .exactλhv=>.inl (same (s:=l8 (sv w e.at_.toNat)) rfl rfl hv)
  split
  .exactλhv=>.inl (same (s:=mE (sv w e.at_.toNat)) rfl rfl hv)
  split
  .exactλhv=>.inl (key rfl hv)
  split
  .exactλhv=>.inl (same (s:=j9 (sv w e.at_.toNat) e.slot) rfl rfl hv)
  exactλhv=>.inl (key rfl hv)
 exactλhv=>.inl (key rfl hv)
def WO {w:ai} (h:Inv w) {i:Nat} (hi:i<4) {m:az} (g:eL w m) (hk:m.kind=1) {s:cE} (U:s∈fB (sv w i) m):∃τ u,be w τ u/\u.ar=s:=by
 unfold fB at U;rcases List.mem_append.1 U with U|U
 .obtain⟨d,hd,rfl⟩:=List.mem_map.1 U;obtain⟨q,hq,_,_,_,_,_,_,a7⟩:=g.k1 hk;rw[<-a7] at hd;obtain⟨u,hu,e,_⟩:=h.ctx q hq d hd;exact⟨_,u,hu,by rw[<-e];rfl⟩
 split at U
 .rename_i v hv;obtain rfl:=List.mem_singleton.1 U;exact⟨_,v,.here hi (uj hv).1,rfl⟩
 simp at U
def aki {w:ai} (h:Inv w) {i:Nat} (hi:i<4) {m:az} (g:eL w m) {v:aA} (hn:DS (sv w i) m v):v.ar.time=1\/∃τ u,be w τ u/\u.ar.time=v.ar.time-1:=by
 rw[hn.eq];have e:(eV (sv w i) m).ar=⟨jz (fB (sv w i) m)+1,(sv w i).site⟩:=by
  show og _ _=_;unfold og;rw[if_pos hn.ok]
 rw[e];rcases Kx (fB (sv w i) m) 0 with h1|⟨s,U,h1⟩
 .left;show jz _+1=1;unfold jz;rw[h1];rfl
 right;obtain⟨τ,u,hu,e2⟩:=WO h hi g hn.kind U;refine⟨τ,u,hu,?_⟩;rw[e2,h1];show jz _=jz _+1-1;omega
def Da.step {w:ai} (h:Inv w) (hg:Da w) (e:Ev):Da (cD w e).1:=λσ v hv=>by
 have fwd:∀τ u,be w τ u->be (cD w e).1 τ u:=λτ u hu=>WK h e hu;have up:(v.ar.time=1\/∃τ u,be w τ u/\u.ar.time=v.ar.time-1)->v.ar.time=1\/∃τ u,be (cD w e).1 τ u/\u.ar.time=v.ar.time-1:=λh1=>h1.imp id λ⟨τ,u,h2,h3⟩=>⟨τ,u,fwd τ u h2,h3⟩;rcases Hw h e hv with⟨τ,h1⟩|⟨i,m,hi,hm,_,hn⟩
 .exact up (hg τ v h1)
 exact up (aki h hi (h.words m hm) hn)
def WQ {w:ai} (h:Inv w) (hg:Da w) {σ:Nat} {v:aA} (hv:be w σ v):v.ar.time<=20:=by
 have key:∀(n:Nat) {σ:Nat} {v:aA},be w σ v->v.ar.time=n->∃l:List aw,l.length=n/\(∀d∈l,d.ar.time<=n)/\l.Pairwise (λa b=>a≠b)/\∀d∈l,∃σ u,be w σ u/\u.aU=d:=by
  intro n;induction n with
  |zero=>exactλ{σ v} _ _=>⟨[],rfl,by simp,by simp,by simp⟩
  |succ n ih=>
   intro σ v hv ht
   have rest:∃l:List aw,l.length=n/\(∀d∈l,d.ar.time<=n)/\l.Pairwise (λa b=>a≠b)/\∀d∈l,∃σ u,be w σ u/\u.aU=d:=by
    rcases hg σ v hv with h1|⟨τ,u,hu,h1⟩
    .exact⟨[],by show 0=n;omega,by simp,by simp,by simp⟩
    exact ih hu om
   obtain⟨l,l1,l2,l3,l4⟩:=rest
   refine⟨v.aU::l,by simp[l1],λd hd=>?_,List.pairwise_cons.2 ⟨λd hd e=>?_,l3⟩,λd hd=>?_⟩
   .rcases List.mem_cons.1 hd with rfl|hd
    .show v.ar.time<=_;omega
    have:=l2 d hd;omega
   .have:=l2 d hd
    rw[<-e] at this
    have e2:v.aU.ar.time=v.ar.time:=rfl
    omega
   rcases List.mem_cons.1 hd with rfl|hd
   .exact⟨σ,v,hv,rfl⟩
   exact l4 d hd
 have h0:1<=v.ar.time:=by
  have:=h.Hu hv;simp only[dN,Bool.and_eq_true] at this;exact pO this.1.1.1.1.1.2
 obtain⟨l,l1,_,l3,l4⟩:=key v.ar.time.toNat hv om;have:=vZ h l3 l4;omega
def dm:Nat->ai->ai
 |0,w=>w
 |n+1,w=>if w.al.length=0 then w else dm n (cU w)
def eP (w:ai) (i:Nat):ai:=dm 1000 (bR w (ev 8 i 0))
def fm (w:ai) (c:Nat):ai:=dm 1000 (bR w (ev 2 0 c))
def iJ (w:ai):ai:=(List.range 4).foldl (λ(w:ai) (i:Nat)=>bR w (ev 7 i 0)) w
def eD (w:ai):ai:=(List.range 2).foldl fm ((List.range 4).foldl eP (dm 1000 (iJ w)))
def bl:Nat->ai->ai
 |0,w=>w
 |n+1,w=>if w.time<79999 then bl n (eD w) else w
def q9 {w:ai} (h:Inv w) (e:Ev):Inv (bR w e):=by
 unfold bR;split
 .exact h.step e ‹_›
 exact h
def Hx (w:ai) (m:az):(jC w m).al=w.al:=by
 unfold jC;dsimp only;split
 .rfl
 split<;>rfl
def Bz {w:ai} (h:w.al.length<=60) {m:az} {r:List az} (hr:w.al=m::r):∃l,(cU w).al=r++l/\oe l+1<=wt m/\(aJ m.to 10 11=false->l=(cN (sv w m.to.toNat) m).2):=by
 rw[xI hr];rw[hr,List.length_cons] at h;split
 .rename_i hc;rw[Hx];exact⟨[],by simp,Kz m,λe=>by rw[hc] at e;cases e⟩
 refine⟨(cN (sv w m.to.toNat) m).2,?_,?_,λ_=>rfl⟩
 .show eN r (cN (sv w m.to.toNat) m).2=_;refine Lz ?_;rcases VX (sv w m.to.toNat) m with e|⟨_,x,e,_⟩<;>rw[e]<;>simp<;>omega
 rcases VX (sv w m.to.toNat) m with e|⟨ha,x,e,hx⟩
 .rw[e];exact Kz m
 rw[e];have:wt m=2:=by unfold wt;rw[if_pos ha]
 rw[this,FZ,hx];exact Nat.le_refl _
def Nt {w:ai} (h:Inv w):Inv (cU w):=q9 h _
def pg {R:ai->Prop} (hR:∀x m r,R x->x.al=m::r->R (cU x)):∀(n:Nat) {w:ai},R w->R (dm n w)
 |0,_,h=>h
 |n+1,w,h=>by
  unfold dm;cases hr:w.al with
  |nil=>exact h
  |cons m r=>exact pg hR n (hR w m r h hr)
def Nu {w:ai} (h:Inv w) (n:Nat):Inv (dm n w):=pg (λx _ _ hx _=>Nt hx) n h
def Hy:∀(n:Nat) {w:ai},Inv w->oe w.al<=n->(dm n w).al=[]/\(dm n w).time<=w.time+oe w.al
 |0,w,_,hn=>by
  cases hr:w.al with
  |nil=>exact⟨hr,by show w.time<=_;rw[show oe []=0 from rfl];omega⟩
  |cons m r=>rw[hr,FZ] at hn;have:=Kz m;omega
 |n+1,w,h,hn=>by
  unfold dm;cases hr:w.al with
  |nil=>exact⟨hr,by show w.time<=_;rw[show oe []=0 from rfl];omega⟩
  |cons m r=>
   obtain⟨l,l1,l2,_⟩:=Bz h.aN.al hr
   have hw:oe (cU w).al+1<=oe w.al:=by rw[l1,hr,acS,FZ];omega
   obtain⟨b1,b2⟩:=Hy n (Nt h) om
   have ht:=nc w (ev 4 0 0)
   refine⟨b1,?_⟩
   show(dm n (cU w)).time<=w.time+(oe (m::r):Nat)
   rw[hr] at hw
   have:(cU w).time<=w.time+1:=ht
   omega
def Hz {R D:ai->Prop} {Q:az->Prop} (hI:∀x,R x->Inv x) (hR:∀x m r,R x->x.al=m::r->R (cU x)) (hD:∀x m r,R x->x.al=m::r->D x->D (cU x))
 (hQ:∀x m r,R x->x.al=m::r->Q m->D (cU x)\/∃y∈(cU x).al,Q y) {w:ai} (h:R w) (h0:D w\/∃y∈w.al,Q y):D (dm 1000 w):=by
 have key:∀n {w:ai},R w->(D w\/∃y∈w.al,Q y)->(D (dm n w)\/∃y∈(dm n w).al,Q y):=by
  intro n;induction n with
  |zero=>exactλ_ h=>h
  |succ n ih=>
   intro w h h0
   unfold dm
   cases hr:w.al with
   |nil=>exact h0.imp id λ⟨y,hy,_⟩=>by rw[hr] at hy;simp at hy
   |cons m r=>
    refine ih (hR w m r h hr) ?_
    rcases h0 with h0|⟨y,hy,hq⟩
    .exact .inl (hD w m r h hr h0)
    rw[hr] at hy
    rcases List.mem_cons.1 hy with rfl|hy
    .exact hQ w _ r h hr hq
    obtain⟨l,l1,_⟩:=Bz (hI w h).aN.al hr
    exact .inr ⟨y,by rw[l1];exact List.mem_append_left l hy,hq⟩
 have hw:=Ky w.al;have hl:=(hI w h).aN.al;rcases key 1000 h h0 with h1|⟨y,hy,_⟩
 .exact h1
 rw[(Hy 1000 (hI w h) om).1] at hy;simp at hy
def akj {s:Server} (h:yW s) (m:az):yW (cN s m).1:=by
 have same:∀{t:Server},t.waits=s.waits->t.ba=s.ba->yW t:=λ{t} e1 e2 d hd=>by
  rw[Sm e1];rw[e2] at hd;exact h d hd
 unfold cN;split
 .unfold dh;split
  .unfold gC;split
   .split
    .exact h
    split
    .exact Ba _
    exact h
   exact h
  split
  .exact h
  split
  .unfold gu;split
   .dsimp only;split
    .split
     .exact Ba _
     exact h
    exact Ba _
   exact h
  split
  .unfold jw;split
   .exact same rfl rfl
   exact h
  split
  .exact h
  split
  .unfold ib;split
   .exact Ba _
   exact h
  split
  .unfold gq;split
   .split
    .exact h
    split
    .exact Ba _
    exact h
   exact h
  split
  .unfold jL;split
   .exact Ba _
   exact h
  exact h
 exact h
def akk (w:ai) (b:List Call):Prop:=
 b=w.calls\/(∃e:Ev,eF e.aj=true/\b=w.calls++[ey {w with time:=w.time+1} e])\/
  ∃i,i<w.calls.length/\bV (ab w.calls i)=true/\(b=w.calls.set i {ab w.calls i with over:=true}\/∃m∈w.al,b=w.calls.set i (cQ (ab w.calls i) m (w.time+1)))
def akl (w:ai) (e:Ev):akk w (cD w e).1.calls:=by
 unfold cD;dsimp only;split
 .unfold g7;split
  .unfold kb;split
   .rename_i hc;rw[Bool.and_eq_true] at hc;exact .inr (.inl ⟨e,hc.1,rfl⟩)
   exact .inl rfl
  dsimp only;split
  .exact .inl rfl
  rename_i hn;obtain⟨a1,_,a3⟩:=na (l:=w.calls) (aj:=e.aj) om;split
  .exact .inr (.inr ⟨_,a1,a3,.inl rfl⟩)
  exact .inl rfl
 split
 .unfold iG;split
  .rename_i hr;simp only[aJ,Bool.and_eq_true,decide_eq_true_eq] at hr;have bz:e.word.toNat<w.al.length:=by have:=hr.2;have:=hr.1;show e.word.toNat<w.al.length;omega
   have dr:ab w.al e.word.toNat∈w.al:=bh bz;have hc:(if e.kind=5\/e.gi=0 then({time:=w.time+1,aC:=w.aC,al:=w.al.take e.word.toNat++w.al.drop (e.word.toNat+1),calls:=w.calls,seen:=w.seen}:ai) else{time:=w.time+1,aC:=w.aC,al:=w.al,calls:=w.calls,seen:=w.seen}).calls=w.calls:=by split<;>rfl
   have ht:(if e.kind=5\/e.gi=0 then({time:=w.time+1,aC:=w.aC,al:=w.al.take e.word.toNat++w.al.drop (e.word.toNat+1),calls:=w.calls,seen:=w.seen}:ai) else{time:=w.time+1,aC:=w.aC,al:=w.al,calls:=w.calls,seen:=w.seen}).time=w.time+1:=by split<;>rfl
   dsimp only;revert hc ht;generalize (if e.kind=5\/e.gi=0 then({time:=w.time+1,aC:=w.aC,al:=w.al.take e.word.toNat++w.al.drop (e.word.toNat+1),calls:=w.calls,seen:=w.seen}:ai) else{time:=w.time+1,aC:=w.aC,al:=w.al,calls:=w.calls,seen:=w.seen})=y;intro hc ht;split
   .exact .inl hc
   split
   .unfold jC;dsimp only;split
    .exact .inl hc
    rename_i hn;obtain⟨a1,_,a3⟩:=na (l:=y.calls) (aj:=(ab w.al e.word.toNat).to-10) om;rw[hc] at a1 a3;refine .inr (.inr ⟨(cq w.calls ((ab w.al e.word.toNat).to-10)).toNat,a1,a3,.inr ⟨_,dr,?_⟩⟩);split
    .show y.calls.set _ (cQ _ _ y.time)=_;rw[hc,ht]
    show y.calls.set _ (cQ _ _ y.time)=_;rw[hc,ht]
   exact .inl hc
  exact .inl rfl
 split
 .refine .inl ?_;unfold fG;dsimp only;repeat' split
  all_goals rfl
 exact .inl rfl
def akm {w:ai} (h:Inv w) (hm:∀q∈w.calls,xD q) (e:Ev):∀q∈(cD w e).1.calls,xD q:=by
 have ht:w.time+1≠0:=by have:=h.aN.time;omega
 have set:∀{i:Nat} {p:Call},xD p->∀q∈w.calls.set i p,xD q:=λ{i p} hp q hq=>by
  rcases xm hq with rfl|⟨k,hk,_,rfl⟩
  .exact hp
  exact hm _ (bh hk)
 rcases akl w e with h1|⟨e2,_,h1⟩|⟨i,hi,_,h1|⟨m,_,h1⟩⟩
 .rw[h1];exact hm
 .rw[h1];intro q hq;rcases List.mem_append.1 hq with hq|hq
  .exact hm q hq
  obtain rfl:=List.mem_singleton.1 hq;intro _ _ hl;have:=aeH (e:=e2);have e3:(ey {w with time:=w.time+1} e2).au.length=0:=rfl;have e4:(ey {w with time:=w.time+1} e2).keys=eZ e2:=rfl;rw[e3,e4] at hl;omega
 .rw[h1];exact set λhw=>by have:=(oZ hw).2;cases this
 rw[h1];exact set (aie (hm _ (bh hi)) m ht)
def WR {P:Server->Prop} {w:ai} (h:Inv w) (hm:∀i,i<4->P (sv w i)) (h1:∀s m,P s->P (cN s m).1) (h2:∀s,P s->P (l8 s)) (h3:∀s,P s->P (mE s)) (h4:∀s slot,P s->P (j9 s slot)) (e:Ev):∀i,i<4->P (sv (cD w e).1 i):=by
 have key:∀{x:ai},x.aC=w.aC->∀i,i<4->P (sv x i):=λe i hi=>by unfold sv;rw[e];exact hm i hi
 have set:∀{x:ai} {j:Nat} {s:Server},j<4->P s->x.aC=w.aC.set j s->∀i,i<4->P (sv x i):=λ{x j s} hj U e i hi=>by
  unfold sv;rw[e,fC (by rw[h.aN.aC];exact hj)];split
  .exact U
  exact hm i hi
 unfold cD;dsimp only;split
 .refine key ?_;unfold g7;split
  .unfold kb;split<;>rfl
  dsimp only;split
  .rfl
  split<;>rfl
 split
 .unfold iG;split
  .rename_i hr;simp only[aJ,Bool.and_eq_true,decide_eq_true_eq] at hr;have bz:e.word.toNat<w.al.length:=by have:=hr.2;have:=hr.1;show e.word.toNat<w.al.length;omega
   have Nn:=h.aN.words _ (bh bz);dsimp only;split
   .refine key ?_;split<;>rfl
   split
   .refine key ?_;show(jC _ _).aC=_;rw[LN];split<;>rfl
   rename_i bq;have eO:0<=(ab w.al e.word.toNat).to/\(ab w.al e.word.toNat).to<=3:=by
    have:=(ma Nn).2.2.1;simp only[lH,cM,aJ,Bool.or_eq_true,Bool.and_eq_true,decide_eq_true_eq] at this bq;omega
   exact set (j:=(ab w.al e.word.toNat).to.toNat) om (h1 _ _ (hm _ om)) rfl
  exact key rfl
 split
 .rename_i eR;rw[Bool.and_eq_true] at eR;obtain⟨hi,_,_,_⟩:=AL eR.2;have U:=hm _ hi;unfold fG;dsimp only;split
  .exact set hi (h2 _ U) rfl
  split
  .exact set hi (h3 _ U) rfl
  split
  .exact key rfl
  split
  .exact set hi (h4 _ e.slot U) rfl
  exact key rfl
 exact key rfl
def akn {w:ai} (h:Inv w) (hm:∀i,i<4->yW (sv w i)) (e:Ev):∀i,i<4->yW (sv (cD w e).1 i):=
 WR h hm (λ_ m U=>akj U m) (λ_ U=>U) (λ_ _ d hd=>by simp[mE] at hd) (λ_ _ U=>U) e
def ako {w:ai} (h:Inv w) (hm:∀i,i<4->dI (sv w i)<0) (e:Ev):∀i,i<4->dI (sv (cD w e).1 i)<0:=by
 refine WR (P:=λs=>dI s<0) h hm (λ_ m U=>ahE U m) (λs U=>?_) (λs U=>?_) (λs slot U=>?_) e
 .exact DI (t:=l8 s) U rfl rfl λv _=>C0 (λe=>e) λd _=>Dx rfl λd hd=>hd
 .exact DI (t:=mE s) U rfl rfl λv _=>C0 (λe=>e) λd _=>Dx (s:=s) (t:=mE s) rfl λd (hd:d∈([]:List aw))=>by simp at hd
 refine DI (t:=j9 s slot) U rfl rfl λv _=>C0 (λe=>?_) λd _=>Dx rfl λd hd=>hd;unfold cP at*;have e2:∀k,ab (j9 s slot).aD k=ab s.aD k\/(ab (j9 s slot).aD k).cm=2:=λk=>by
  show ab (s.aD.set slot.toNat ⟨(ab s.aD slot.toNat).bw+1,2⟩) k=_\/(ab (s.aD.set slot.toNat ⟨(ab s.aD slot.toNat).bw+1,2⟩) k).cm=2;rcases Nat.lt_or_ge slot.toNat s.aD.length with hi|hi
  .rw[fC hi];split
   .exact .inr rfl
   exact .inl rfl
  rw[List.set_eq_of_length_le hi];exact .inl rfl
 rcases e2 (cV v.key).toNat with e3|e3
 .rw[e3] at e;exact e
 rw[e3] at e;cases e
def iH.step {w:ai} (h:Inv w) (hm:iH w) (e:Ev):iH (cD w e).1:=⟨hm.MU.step h e,akn h hm.V5 e,akm h hm.V6 e,ako h hm.done e⟩
def iH.gv {w:ai} (h:Inv w) (hm:iH w) (e:Ev):iH (gv w e).1:=by
 unfold Go.Proofs.YtldbakcpcfdlaaaGreat.gv;split
 .exact hm.step h e
 exact hm
def iH.lift {w:ai} (h:Inv w) (hm:iH w) (e:Ev):iH (bR w e):=by
 unfold bR;split
 .exact hm.step h e
 exact hm
def Nv (l:List Ev):iH (cx l):=(WL (R:=iH) V7 l λw e _ h _ hm=>hm.gv h e).1
def akp {w:ai} (h:Inv w):Inv (eD w):=by
 have h1:Inv (iJ w):=by unfold iJ;exact yX (R:=Inv) (f:=λ(w:ai) (i:Nat)=>bR w (ev 7 i 0)) (λ_ _ hx=>q9 hx _) (List.range 4) h
 have h2:=yX (R:=Inv) (f:=eP) (λx i hx=>by unfold eP;exact Nu (q9 hx _) 1000) (List.range 4) (Nu h1 1000);have h3:=yX (R:=Inv) (f:=fm) (λx i hx=>by unfold fm;exact Nu (q9 hx _) 1000) (List.range 2) h2;unfold eD;exact h3
def WS:∀(n:Nat) {w:ai},Inv w->Inv (bl n w)
 |0,_,h=>h
 |n+1,w,h=>by
  unfold bl;split
  .exact WS n (akp h)
  exact h
def Ea:∀(n:Nat) (w:ai),(dm n w).time<=w.time+n
 |0,w=>by show w.time<=_;omega
 |n+1,w=>by
  unfold dm;split
  .omega
  have h1:=Ea n (cU w);have h2:(cU w).time<=w.time+1:=nc w _;omega
def WT (w:ai) (i:Nat):(eP w i).time<=w.time+1001:=by
 have h1:=nc w (ev 8 i 0);have h2:=Ea 1000 (bR w (ev 8 i 0));unfold eP;omega
def WU (w:ai) (c:Nat):(fm w c).time<=w.time+1001:=by
 have h1:=nc w (ev 2 0 c);have h2:=Ea 1000 (bR w (ev 2 0 c));unfold fm;omega
def akq (w:ai):(iJ w).time<=w.time+4:=by
 have:=Gz (f:=λ(w:ai) (i:Nat)=>bR w (ev 7 i 0)) (n:=1) (λx i=>nc x _) (List.range 4) w;rw[List.length_range] at this;unfold iJ;omega
def Nw (w:ai):(eD w).time<=w.time+7010:=by
 have h0:=akq w;have h1:=Ea 1000 (iJ w);have h2:=Gz WT (List.range 4) (dm 1000 (iJ w));have h3:=Gz WU (List.range 2) ((List.range 4).foldl eP (dm 1000 (iJ w)));rw[List.length_range] at h2 h3;unfold eD;omega
def Eb {w:ai} (h:w.time<99999) (e:Ev):(gv w e).1=bR w e:=by
 unfold gv bR;by_cases hd:(cD w e).2=true
 .rw[if_pos ⟨h,hd⟩,if_pos hd]
 rw[if_neg (λx=>hd x.2),if_neg hd]
def tj {w:ai} (h:bX w) (ht:w.time<99999) (e:Ev):bX (bR w e):=by
 rw[<-Eb ht];exact(fD.1 (Bx (fD.2 ⟨h,by omega⟩) e)).1
def WV:∀(n:Nat) {w:ai},bX w->w.time+n<=99999->bX (dm n w)
 |0,_,h,_=>h
 |n+1,w,h,ht=>by
  unfold dm;split
  .exact h
  have h2:(cU w).time<=w.time+1:=nc w _;exact WV n (tj h om _) om
structure zC (x y:ai) (k:Nat):Prop where
 aN:bX y
 time:y.time<=x.time+k
 rest:dm (1000-k) y=dm 1000 x
def zC.next {x y:ai} {k:Nat} (h:zC x y k) (ht:x.time<=98000) (hk:k<1000) (hr:0<y.al.length):zC x (bR y (ev 4 0 0)) (k+1):=by
 have h2:(bR y (ev 4 0 0)).time<=y.time+1:=nc y _;have h3:=h.time;refine⟨tj h.aN om _,by omega,?_⟩;rw[<-h.rest,show 1000-k=(1000-(k+1))+1 by omega];show _=(if y.al.length=0 then y else dm (1000-(k+1)) (cU y));rw[if_neg om];rfl
def zC.stop {x y:ai} {k:Nat} (h:zC x y k) (hk:¬k<1000\/¬0<y.al.length):y=dm 1000 x:=by
 rw[<-h.rest];rcases hk with hk|hk
 .rw[show 1000-k=0 by omega];rfl
 cases 1000-k with
 |zero=>rfl
 |succ n=>unfold dm;rw[if_pos om]
def v8 {w:ai} (h:bX w) (ht:w.time<=98000):bX (dm 1000 w)/\(dm 1000 w).time<=w.time+1000:=⟨WV 1000 h om,Ea 1000 w⟩
structure zD (m:Nat) (x y:ai) (k:Nat):Prop where
 aN:bX y
 time:y.time<=99999
 rest:bl (m-k) y=bl m x
def HA (y:ai) (k:Nat):dm 1000 (bR y (ev 8 k 0))=eP y k:=rfl
def HB (y:ai) (k:Nat):dm 1000 (bR y (ev 2 0 k))=fm y k:=rfl
def WW {w:ai} (h:bX w) (ht:w.time<=80000):bX (eD w):=by
 have r:=GU (f:=λ(w:ai) (i:Nat)=>bR w (ev 7 i 0)) (n:=1) aP (λx i hx WX=>⟨tj hx om _,nc x _⟩) (List.range 4) h (by rw[List.length_range];omega);rw[List.length_range] at r;have b:=v8 r.1 om;have t:=GU (f:=eP) (n:=1001) aP (λx i hx WX=>⟨by
  have h1:=nc x (ev 8 i 0);exact(v8 (tj hx om (ev 8 i 0)) om).1,WT x i⟩) (List.range 4) b.1 (by rw[List.length_range];omega)
 rw[List.length_range] at t;exact(GU (f:=fm) (n:=1001) aP (λx i hx WX=>⟨by
  have h1:=nc x (ev 2 0 i);exact(v8 (tj hx om (ev 2 0 i)) om).1,WU x i⟩) (List.range 2) t.1 (by rw[List.length_range];omega)).1
def zE (x:ai):mI x=(((cK x&&decide (x.al.length=0))&&cI x.aC.length (yY x))&&qH jY (cg x 0) (cg x 1)):=by
 unfold mI;rw[afA];rfl
def WY (x:ai) (hf:x.Fit) (hl:x.calls.length<=1048576):
 Fn prog 16 [x.av] (AV.bool (mI x)):=by
 refine Fn.go 51 func16 ntmps16 (λW I a U=>?_);have lens:x.aC.length<=9223372036854775807/\x.al.length<=9223372036854775807/\x.calls.length<=9223372036854775807/\x.seen.length<=9223372036854775807:=⟨U.ln 0 1,U.ln 0 2,U.ln 0 3,U.ln 0 4⟩;refine bk λI a w U=>?_;refine U.o (.c1 (zx x hf hl)) λU=>?_;refine jW λI a w U=>?_;refine U.cd (λae=>?_) λae=>?_
 .rw[Tg,<-Bool.not_and] at ae;replace ae:=nt ae;refine bf ?_;exact bB (by rw[zE];rw[ae];rfl)
 rw[Tg,<-Bool.not_and] at ae;replace ae:=nf ae;rw[Bool.and_eq_true] at ae;refine aX λI a w U=>?_;refine St.lo (σ:=Nat) (2::(run 2 4 (run 28 18 []))) ⟨λk=>[(18,AV.int k)],λk=>[],λk=>k<=x.aC.length/\∀i,i<k->(yY x) i=true⟩ (λk=>x.aC.length-k) 0 U ?aI ?bF;case aI=>exact⟨Nat.zero_le _,λi hi=>by omega⟩
 rintro k I a w ao U;obtain⟨mU,aM⟩:=ao;refine aB λI a w U=>?_;refine cz (λah=>?_) λah=>?_
 .have h4:=(zf ae.1 (k:=0) om).2.1;obtain⟨ca,cw,co,ck,cs⟩:=o6 ae.1 (i:=k) om;have l1:=ga cw;have l2:=iP co;have l3:=iP ck;refine aG λI a w U=>?_;refine U.alloc rfl cA dS λb4 I a w U=>?_;refine aB λI a w U=>?_;obtain⟨I,U⟩:=U.fb 0 4;refine aG λI a w U=>?_;refine U.o (.cl (acy (ab x.aC k).aD leaves _ (λq _=>Fn.wE (aeI q)))) λU=>?_;refine aau λI a w U=>?_;refine U.cd (λaq=>?_) λaq=>?_
  .rw[T8] at aq;replace aq:=nt aq;refine bf ?_;exact bB (by rw[zE];rw[eI (f:=yY x) ah aq];simp)
  rw[T8] at aq;replace aq:=nf aq;refine aF λI a w U=>?_;have U:=U.drop 0;exact U.ag (k+1) (⟨by omega,eY aM aq⟩)
 refine zt ?_;refine U.dk ?_;refine bG ?_;refine .o (bO (DK x 0 ae.1 om) (ax (.t rfl) (ax .c aH))) ?_;refine bG ?_;refine .o (bO (DK x 1 ae.1 om) (ax (.t rfl) (ax .c aH))) ?_;refine .o (.cl (acT (cg x 0) (cg x 1) jY _ (λu v=>Fn.wE (afB u v)))) ?_;refine bG ?_;refine .nil ?_;intro I a w U;refine zt ?_;refine U.rt ?_;exact bB (by rw[zE];rw[ae.1,ae.2,eX aM om];rfl)
def zF {x:ai} (h:Inv x) {m:az} {r:List az} (hr:x.al=m::r) {j:Nat} (hj:j<4) (eO:m.to=(j:Int)):sv (cU x) j=(cN (sv x j) m).1/\∃l,(cU x).al=r++l/\l=(cN (sv x j) m).2:=by
 have hb:aJ m.to 10 11=false:=by simp[aJ];omega
 have ht:m.to.toNat=j:=by omega
 constructor
 .rw[xI hr,if_neg (by rw[hb];decide)];unfold sv;dsimp only;rw[fC (by rw[h.aN.aC];omega),if_pos ht.symm,ht]
 obtain⟨l,l1,_,l3⟩:=Bz h.aN.al hr;refine⟨l,l1,?_⟩;rw[l3 hb,ht]
def Calm.pop {x:ai} (h:Calm x) {m:az} {r:List az} (hr:x.al=m::r):Calm (cU x):=
 ⟨Nt h.inv,h.more.lift h.inv _,λi hi=>by
  rcases D6 h.inv hr hi with e|⟨_,_,e⟩
  .rw[e];exact h.up i hi
  rw[e,ahF];exact h.up i hi⟩
def Calm.qd {x:ai} (h:Calm x) (n:Nat):Calm (dm n x):=pg (λ_ _ _ h hr=>h.pop hr) n h
def Calm.frame {w x:ai} (h:Calm w) (hi:Inv x) (hm:iH x) (e:x.aC=w.aC):Calm x:=⟨hi,hm,λi hi=>by unfold sv;rw[e];exact h.up i hi⟩
def akr (s:Server) (m:az) (k:Nat):ab (cN s m).1.aD k=ab s.aD k\/(ab (cN s m).1.aD k).cm≠2:=by
 have same:∀{t:Server},t.aD=s.aD->ab t.aD k=ab s.aD k\/(ab t.aD k).cm≠2:=λh=>by rw[h];exact .inl rfl
 unfold cN;split
 .unfold dh;split
  .unfold gC;split
   .split
    .exact same rfl
    split
    .exact same (sH _)
    exact same rfl
   exact same rfl
  split
  .exact same rfl
  split
  .unfold gu;split
   .dsimp only;split
    .split
     .exact same (sH _)
     exact same rfl
    exact same (sH _)
   exact same rfl
  split
  .unfold jw;split<;>exact same rfl
  split
  .exact same rfl
  split
  .unfold ib;split
   .exact same (sH _)
   exact same rfl
  split
  .unfold gq;split
   .split
    .exact same rfl
    split
    .show ab (ef (jB s m)).aD k=_\/(ab (ef (jB s m)).aD k).cm≠2;rw[sH];rcases T9 (l:=s.aD) (i:=m.slot.toNat) (x:=⟨m.bw,1⟩) k with e|e
     .exact .inl e
     right;show(ab (s.aD.set m.slot.toNat ⟨m.bw,1⟩) k).cm≠2;rw[e];show(1:Int)≠2;decide
    exact same rfl
   exact same rfl
  split
  .unfold jL;split
   .show ab (ef (lr s m)).aD k=_\/(ab (ef (lr s m)).aD k).cm≠2;rw[sH];rcases T9 (l:=s.aD) (i:=m.slot.toNat) (x:=⟨m.bw,0⟩) k with e|e
    .exact .inl e
    right;show(ab (s.aD.set m.slot.toNat ⟨m.bw,0⟩) k).cm≠2;rw[e];show(0:Int)≠2;decide
   exact same rfl
  exact same rfl
 exact same rfl
def Ec {x:ai} (h:Inv x) {m:az} {r:List az} (hr:x.al=m::r) {j:Nat} (hj:j<4) (k:Nat):ab (sv (cU x) j).aD k=ab (sv x j).aD k\/(ab (sv (cU x) j).aD k).cm≠2:=by
 rcases D6 h hr hj with e|⟨_,_,e⟩
 .rw[e];exact .inl rfl
 rw[e];exact akr _ _ k
def aks {w:ai} (h:Inv w) {i:Nat} (hi:i<4):(ic (sv w i)).length<=60:=by
 obtain⟨a,b,_⟩:=Ua (sv w i);have U:=h.cT hi;have hoa:(sv w i).aE.length+(vF (sv w i)).length<=20:=by
  rw[<-List.length_append];refine vZ h ?_ λd hd=>?_
  .rw[List.pairwise_append];refine⟨DH U.aE,a,λx hx y hy e=>?_⟩;obtain⟨v,hv,e2⟩:=U.lN x hx;have:=(b y hy).1;rw[<-e,<-e2] at this;unfold eG at this;rw[Bool.or_eq_false_iff,decide_eq_false_iff_not] at this;exact this.1 (nC.2 ⟨v,hv,rfl⟩)
  rcases List.mem_append.1 hd with hd|hd
  .obtain⟨x,hx,e⟩:=U.lN d hd;exact⟨_,x,.here hi hx,e⟩
  obtain⟨_,v,hv,vJ⟩:=b d hd;obtain⟨u,e,hu⟩:=Bt h (h.lU i hi v hv) vJ;exact⟨_,u,hu,e⟩
 have hl:=afJ (sv w i);rw[U.aD] at hl;have hr:=KB (afd (sv w i)) (sv w i).aE;unfold ic;split
 .simp only[List.length_append,List.length_map];omega
 simp
def wc {w:ai} (h:Calm w) (hr:w.al=[]) {i:Nat} (hi:i<4):bR w (ev 8 (i:Int) 0)={w with time:=w.time+1,al:=ic (sv w i)}:=by
 have e1:cM (i:Int)=true:=jy.2 om;have e2:(ev 8 (i:Int) 0).at_.toNat=i:=by show((i:Int)).toNat=i;omega
 have hd:cD w (ev 8 (i:Int) 0)=({w with time:=w.time+1,al:=eN w.al (ic (sv w i))},(sv w i).up):=by
  have hk:(ev 8 (i:Int) 0).kind=8:=rfl;unfold cD;dsimp only;rw[if_neg om,if_neg om,if_pos (show(aJ (ev 8 (i:Int) 0).kind 6 9&&cM (ev 8 (i:Int) 0).at_)=true by
   show(aJ 8 6 9&&cM (i:Int))=true;rw[e1];decide)]
  unfold fG;dsimp only;rw[if_neg om,if_neg om,if_pos hk,e2];rfl
 unfold bR;rw[hd];dsimp only;rw[if_pos (h.up i hi),hr,Lz (by have:=aks h.inv hi;simp;omega)];rfl
def zG {w:ai} (h:Calm w) {i:Nat} (hi:i<4) (hr:w.al=[]):Calm (bR w (ev 8 (i:Int) 0)):=h.frame (q9 h.inv _) (h.more.lift h.inv _) (by rw[wc h hr hi])
def WZ {w:ai} (h:Inv w) {l:List aA} (hl:ct l=true) (hv:∀v∈l,∃τ,be w τ v):l.length<=20:=by
 have:=vZ h (Mm (pU hl)) λd hd=>by
  obtain⟨v,ng,rfl⟩:=List.mem_map.1 hd;obtain⟨τ,ht⟩:=hv v ng;exact⟨τ,v,ht,rfl⟩
 rwa[List.length_map] at this
def akt {x:ai} (h:Calm x) {j:Nat} (hj:j<4) {m:az} (hm:bK m=true) (g:eL x m) (hk:m.kind=9) (eO:m.to=(j:Int)) (hf:m.aT=((bP j:Nat):Int)) (he:1<=m.bw):(cN (sv x j) m).2=[nG (sv x j) m]:=by
 rw[tg h hj hm eO];have jQ:=h.inv.site hj;unfold dh;rw[if_neg om,if_neg om,if_neg om,if_neg om,if_neg om,if_neg om,if_pos hk];unfold gq;have De:m.aT=fA (sv x j).site:=by rw[jQ,za,hf]
 rw[if_pos (by rw[De];simp[he])];split
 .rfl
 rename_i aW;obtain⟨f1,_⟩:=Bv h.inv hj De;obtain⟨_,k9⟩:=g.k9 hk;rw[f1,jA] at k9;have Hn:=k9.resolve_left aW;obtain⟨_,f2,f3,f4⟩:=id Hn;have hl:=nH hm;have ht:=j1 hj;have b1:=WZ h.inv hl.1 λv hv=>⟨_,.here ht ((f2 v).1 hv).1⟩;have b2:=WZ h.inv hl.2.1 λv hv=>⟨_,h.inv.lU _ ht v ((f3 v).1 hv).1⟩;have b3:m.aE.length<=20:=vZ h.inv (DH hl.2.2.1) λd hd=>by
  obtain⟨u,hu,e⟩:=(h.inv.cT ht).lN d ((f4 d).1 hd).1;exact⟨_,u,.here ht hu,e⟩
 have c1:(eh (sv x j) m.slot).an.length<=(sv x j).an.length:=List.length_filter_le _ _;have c2:(eh (sv x j) m.slot).waits.length<=(sv x j).waits.length:=List.length_filter_le _ _;have c3:(eh (sv x j) m.slot).aE.length<=(sv x j).aE.length:=List.length_filter_le _ _;have d1:=Ns h.inv hj;have d2:=WM h.inv hj;have d3:=WN h.inv hj;have hb:pQ (sv x j) m=true:=by
  unfold pQ;simp only[Bool.and_eq_true,decide_eq_true_eq];omega
 rw[if_pos (by rw[hb,jX.2 (akd h.inv hj hm he Hn hb)];rfl)]
def HC {w:ai} (h:Calm w) (hr:w.al=[]) {i:Nat} (hi:i<4) {k:Nat} (hk:k<3):(ab (sv (eP w i) i).aD k).cm≠2:=by
 have hc:=zG h hi hr;have hl:=wc h hr hi;have iR:∀j,sv (bR w (ev 8 (i:Int) 0)) j=sv w j:=λj=>by rw[hl];rfl
 have uH:(bR w (ev 8 (i:Int) 0)).al=ic (sv w i):=by rw[hl]
 unfold eP;revert hc iR uH;generalize bR w (ev 8 (i:Int) 0)=y;intro hc iR uH;by_cases h2:(ab (sv w i).aD k).cm=2
 .have Bm:1<=(ab (sv w i).aD k).bw:=by
   have:=uc.1 ((h.inv.cT hi).aN _ (bh (l:=(sv w i).aD) (k:=k) (by rw[(h.inv.cT hi).aD];exact hk)));have h3:=this.2.2.2.2 (by rw[h2];decide);omega
  refine Hz (R:=λx=>Calm x/\((ab (sv x i).aD k).cm=2->ab (sv x i).aD k=ab (sv w i).aD k)) (D:=λx=>(ab (sv x i).aD k).cm≠2)
   (Q:=λm=>(m.kind=9/\m.aT=(i:Int)/\m.to=((bP i:Nat):Int)/\m.slot=(k:Int)/\m.bw=(ab (sv w i).aD k).bw)\/(m.kind=10/\m.aT=((bP i:Nat):Int)/\m.to=(i:Int)/\m.slot=(k:Int)/\m.bw=(ab (sv w i).aD k).bw)) (λx hx=>hx.1.inv) ?_ ?_ ?_ ⟨hc,λ_=>by rw[iR]⟩ ?_
  .intro x m r hx dD;refine⟨hx.1.pop dD,λh3=>?_⟩;rcases Ec hx.1.inv dD hi k with e|e
   .rw[e] at h3⊢;exact hx.2 h3
   exact absurd h3 e
  .intro x m r hx dD hd;rcases Ec hx.1.inv dD hi k with e|e
   .rw[e];exact hd
   exact e
  .intro x m r hx dD hq;have dr:m∈x.al:=by rw[dD];simp
   have hm:=hx.1.inv.aN.words m dr;have g:=hx.1.inv.words m dr;rcases hq with⟨q1,q2,q3,q4,q5⟩|⟨q1,q2,q3,q4,q5⟩
   .right;obtain⟨_,l,l1,l2⟩:=zF hx.1.inv dD (j1 hi) q3;rw[akt hx.1 (j1 hi) hm g q1 q3 (by rw[jA];exact q2) (by rw[q5];exact Bm)] at l2;refine⟨nG (sv x (bP i)) m,by rw[l1,l2];simp,.inr ⟨rfl,?_,q2,q4,q5⟩⟩;exact hx.1.inv.site (j1 hi)
   left;by_cases h3:(ab (sv x i).aD k).cm=2
   .have he:=hx.2 h3;rw[(zF hx.1.inv dD hi q3).1,tg hx.1 hi hm q3];unfold dh;rw[if_neg om,if_neg om,if_neg om,if_neg om,if_neg om,if_neg om,if_neg om,if_pos q1];have ka:m.slot.toNat=k:=by omega
    have hg:jL (sv x i) m=ef (lr (sv x i) m):=by
     unfold jL;rw[if_pos];rw[ka,q2,hx.1.inv.site hi,za,he,h2,q5];simp
    show(ab (jL (sv x i) m).aD k).cm≠2;rw[hg,sH];show(ab ((sv x i).aD.set m.slot.toNat ⟨m.bw,0⟩) k).cm≠2;rw[ka,fC (by rw[(hx.1.inv.cT hi).aD];exact hk),if_pos rfl];show(0:Int)≠2;decide
   rcases Ec hx.1.inv dD hi k with e|e
   .rw[e];exact h3
   exact e
  right;refine⟨gS (sv w i) (k:Int),?_,.inl ⟨rfl,h.inv.site hi,?_,rfl,?_⟩⟩
  .rw[uH];unfold ic;rw[if_pos (h.up i hi)];refine List.mem_append_left _ (List.mem_append_left _ (List.mem_map.2 ⟨k,af1 (by rw[(h.inv.cT hi).aD];exact hk) h2,rfl⟩))
  .show fA (sv w i).site=_;rw[h.inv.site hi,za]
  show(ab (sv w i).aD (k:Int).toNat).bw=_;rw[Int.toNat_natCast]
 refine(pg (R:=λx=>Calm x/\(ab (sv x i).aD k).cm≠2) (λx m r hx dD=>⟨hx.1.pop dD,?_⟩) 1000 ⟨hc,by rw[iR];exact h2⟩).2;rcases Ec hx.1.inv dD hi k with e|e
 .rw[e];exact hx.2
 exact e
structure gE (w:ai):Prop where
 calm:Calm w
 al:w.al=[]
def BA {w:ai} (h:Calm w):gE (dm 1000 w):=⟨h.qd 1000,(Hy 1000 h.inv (by have:=Ky w.al;have:=h.inv.aN.al;omega)).1⟩
def pj {w:ai} (h:gE w) {i:Nat} (hi:i<4):gE (eP w i):=BA (zG h.calm hi h.al)
def W1 {w:ai} (h:Calm w) {j:Nat} (hj:j<4) {k:Nat} (U:(ab (sv w j).aD k).cm≠2) (n:Nat):(ab (sv (dm n w) j).aD k).cm≠2:=
 (pg (R:=λx=>Calm x/\(ab (sv x j).aD k).cm≠2) (λx m r hx dD=>⟨hx.1.pop dD,by
   rcases Ec hx.1.inv dD hj k with e|e
   .rw[e];exact hx.2
   exact e⟩) n ⟨h,U⟩).2
def Rest.qd {w:ai} (h:Calm w) (hr:Rest w) (n:Nat):Rest (dm n w):=λi hi k hk=>W1 h hi (hr i hi k hk) n
def zH {w:ai} (h:Calm w) (hr:w.al=[]) {i:Nat} (hi:i<4) (j:Nat):sv (bR w (ev 8 (i:Int) 0)) j=sv w j:=by rw[wc h hr hi];rfl
def Rest.j3 {w:ai} (h:gE w) (hr:Rest w) {i:Nat} (hi:i<4):Rest (eP w i):=Rest.qd (zG h.calm hi h.al) (λj hj k hk=>by rw[zH h.calm h.al hi];exact hr j hj k hk) 1000
def jb (w:ai):ai:=eP (eP (eP (eP w 0) 1) 2) 3
def aku (w:ai):(List.range 4).foldl eP w=jb w:=by
 rw[show List.range 4=[0,1,2,3] from rfl];simp only[List.foldl_cons,List.foldl_nil,jb]
def W2 {w:ai} (h:gE w):gE (jb w):=pj (pj (pj (pj h aP) aP) aP) aP
def akv {w:ai} (h:gE w):Rest (jb w):=by
 have gi:∀{w:ai},gE w->∀{i j k:Nat},i<4->j<4->(ab (sv w j).aD k).cm≠2->(ab (sv (eP w i) j).aD k).cm≠2:=λh i j k hi hj U=>
  W1 (zG h.calm hi h.al) hj (by rw[zH h.calm h.al hi];exact U) 1000
 have h1:=pj h (i:=0) aP;have h2:=pj h1 (i:=1) aP;have h3:=pj h2 (i:=2) aP;intro i hi k hk;unfold jb;rcases(by omega:i=0\/i=1\/i=2\/i=3) with rfl|rfl|rfl|rfl
 .exact gi h3 aP hi (gi h2 aP hi (gi h1 aP hi (HC h.calm h.al hi hk)))
 .exact gi h3 aP hi (gi h2 aP hi (HC h1.calm h1.al hi hk))
 .exact gi h3 aP hi (HC h2.calm h2.al hi hk)
 exact HC h3.calm h3.al hi hk
def akw {x:ai} (h:Inv x) {m:az} {r:List az} (hr:x.al=m::r) {K:Int->Prop} (hK:∀k,K k->K (k+1)) (hk:∀y∈x.al,K y.kind):∀y∈(cU x).al,K y.kind:=by
 obtain⟨l,l1,l2,l3⟩:=Bz h.aN.al hr;have hm:K m.kind:=hk m (by rw[hr];simp);intro y hy;rw[l1] at hy;rcases List.mem_append.1 hy with hy|hy
 .exact hk y (by rw[hr];simp[hy])
 cases hc:aJ m.to 10 11 with
 |false=>
  rw[l3 hc] at hy
  rw[MO _ _ y hy]
  exact hK _ hm
 |true=>
  exfalso
  have e:(cU x).al=r:=by rw[xI hr,if_pos hc,Hx]
  rw[e] at l1
  have:=congrArg List.length l1
  rw[List.length_append] at this
  have:l=[]:=List.length_eq_zero_iff.1 om
  rw[this] at hy;simp at hy
def BB {x:ai} (h:Calm x) (hr:Rest x) {m:az} {r:List az} (hx:x.al=m::r) {j:Nat} (hj:j<4):(sv (cU x) j).aD=(sv x j).aD:=by
 have dr:m∈x.al:=by rw[hx];simp
 have hm:=h.inv.aN.words m dr;rcases D6 h.inv hx hj with e|⟨h1,_,e⟩
 .rw[e]
 rw[e,tg h hj hm h1];exact(No h hr hj hm (h.inv.words m dr)).1
def akx {x:ai} (h:Calm x) (hr:Rest x) {j:Nat} (hj:j<4) {m:az} (hm:bK m=true) (g:eL x m) (hk:m.kind≠1):∀d∈(dh (sv x j) m).1.aE,d∈(sv x j).aE:=by
 have h9:=(No h hr hj hm g).2;have so:∀{s:Server},(ef s).aE=s.aE:=λ{s}=>(xf s).2.2.2;by_cases hb:m.kind=9\/m.kind=10
 .rw[h9 hb];exactλd hd=>hd
 unfold dh;rw[if_neg hk];split
 .exactλd hd=>hd
 split
 .unfold gu;split
  .dsimp only;split
   .split
    .rw[so];exactλd hd=>hd
    exactλd hd=>hd
   rw[so];exactλd hd=>hd
  exactλd hd=>hd
 split
 .show∀d∈(jw _ _).aE,_;unfold jw;split
  .exactλd hd=>yx hd
  exactλd hd=>hd
 split
 .exactλd hd=>hd
 split
 .show∀d∈(ib _ _).aE,_;unfold ib;split
  .rw[so];exactλd hd=>hd
  exactλd hd=>hd
 split
 .exact absurd (.inl ‹_›) hb
 split
 .exact absurd (.inr ‹_›) hb
 exactλd hd=>hd
def W3 {x:ai} (h:Calm x) (hr:Rest x) {m:az} {r:List az} (hx:x.al=m::r) (hk:m.kind≠1) {j:Nat} (hj:j<4):∀d∈(sv (cU x) j).aE,d∈(sv x j).aE:=by
 have dr:m∈x.al:=by rw[hx];simp
 have hm:=h.inv.aN.words m dr;rcases D6 h.inv hx hj with e|⟨h1,_,e⟩
 .rw[e];exactλd hd=>hd
 rw[e,tg h hj hm h1];exact akx h hr hj hm (h.inv.words m dr) hk
def Phase.pop {w:ai} {n:Int} (hn:2<=n) {x:ai} (h:Phase w n x) {m:az} {r:List az} (hx:x.al=m::r):Phase w n (cU x) where
 calm:=h.calm.pop hx
 rest:=λi hi k hk=>by rw[BB h.calm h.rest hx hi];exact h.rest i hi k hk
 kinds:=akw h.calm.inv hx (K:=λk=>n<=k) (λk hk=>by omega) h.kinds
 aD:=λj hj=>by rw[BB h.calm h.rest hx hj];exact h.aD j hj
 aE:=λj hj d hd=>h.aE j hj d (W3 h.calm h.rest hx (by have:=h.kinds m (by rw[hx];simp);omega) hj d hd)
def Phase.qd {w:ai} {n:Int} (hn:2<=n) {x:ai} (h:Phase w n x) (k:Nat):Phase w n (dm k x):=pg (λ_ _ _ h hx=>h.pop hn hx) k h
def Nx {w:ai} (h:gE w) (hr:Rest w) {i:Nat} (hi:i<4):Phase w 5 (bR w (ev 8 (i:Int) 0)) where
 calm:=zG h.calm hi h.al
 rest:=λj hj k hk=>by rw[zH h.calm h.al hi];exact hr j hj k hk
 kinds:=by rw[wc h.calm h.al hi];exact MP
 aD:=λj _=>by rw[zH h.calm h.al hi]
 aE:=λj _ d hd=>by rw[zH h.calm h.al hi] at hd;exact hd
def W4 {w:ai} (h:Inv w) (hr:Rest w) {i:Nat} (hi:i<4) {v:aA} (hv:v∈(sv w i).an\/v∈(sv w i).waits):cP (sv w i) v.key=1:=by
 have U:=h.cT hi;have h3:=sO (jn U hv);have h0:cP (sv w i) v.key≠0:=hv.elim (U.here v) (U.oK v);have h2:=hr i hi _ h3;have hg:=uc.1 (U.aN _ (bh (l:=(sv w i).aD) (k:=vk v) (by rw[U.aD];exact h3)));have e:cP (sv w i) v.key=(ab (sv w i).aD (vk v)).cm:=rfl;rw[e] at h0⊢;omega
def W5 {w:ai} (h:Inv w) (hr:Rest w) {σ:Nat} (hσ:σ<2) {k:Nat} (hk:k<3):∃j,j<4/\j/2=σ/\(ab (sv w j).aD k).cm=1:=by
 have hj:2*σ<4:=by omega
 have e:bP (2*σ)=2*σ+1:=by unfold bP;rw[if_pos om]
 rcases af2 (h.fits _ hj k hk) (hr _ hj k hk) (hr _ (j1 hj) k hk) with h1|h1
 .exact⟨2*σ,hj,by omega,h1.1⟩
 exact⟨bP (2*σ),j1 hj,by rw[e];omega,h1.1⟩
def aky {w x:ai} {n:Int} (h:Phase w n x) {j:Nat} (hj:j<4) {m:az} {v:aA} (hm:bK m=true) (g:eL x m) (hk:m.kind=5) (eO:m.to=(j:Int)) (hv:m.an=[v]) (hf:0<=m.aT/\m.aT<=3) (D5:m.aT/2≠((j/2:Nat):Int)) (U:(ab (sv w j).aD (vk v)).cm=1):
 (cN (sv x j) m).2=[mF (sv x j) m v]/\(v∈(cN (sv x j) m).1.an\/v∈(cN (sv x j) m).1.waits->True):=by
 refine⟨?_,λ_=>trivial⟩;rw[tg h.calm hj hm eO];have jQ:=h.calm.inv.site hj;have Bj:=h.calm.inv.cT hj;obtain⟨u,u1,u2,u3⟩:=g.k5 hk;rw[hv] at u1;obtain rfl:v=u:=by simpa using u1
 have A3:=h.calm.inv.Hu u2;have e0:ab m.an 0=v:=by rw[hv];rfl
 have hsj:=(ue (n:=(j:Int)) (jy.2 ⟨by omega,by omega⟩)).1;have hsf:=(ue (n:=m.aT) (jy.2 hf)).1;unfold dh;rw[if_neg om,if_neg om,if_pos hk];unfold gu;have ao:uk (sv x j) m=true:=by
  unfold uk;rw[e0,jQ];simp only[Bool.and_eq_true,bne_iff_ne,decide_eq_true_eq];refine⟨⟨⟨⟨jy.2 hf,by omega⟩,by rw[hv];rfl⟩,?_⟩,by rw[u3];omega⟩;unfold fE;rw[(iW A3).1];have:cP (sv x j) v.key=1:=by
   unfold cP;rw[h.aD j hj];exact U
  rw[this];rfl
 rw[if_pos ao];dsimp only;rw[e0];split
 .rename_i hp;have hw:=WM h.calm.inv hj;have hc:iO (sv x j).waits v=true:=by
   unfold iO;rw[A3];simp only[Bool.and_eq_true,decide_eq_true_eq];exact⟨⟨trivial,hp.2⟩,by omega⟩
  rw[if_pos hc]
 rfl
def akB {x:ai} (h:Calm x) {i:Nat} (hi:i<4) {m:az} (hm:bK m=true) (hk:m.kind=6) (eO:m.to=(i:Int)) (hf:0<=m.aT/\m.aT<=3) (D5:m.aT/2≠((i/2:Nat):Int)) (U:cP (sv x i) m.key=1):(⟨m.key,m.ar⟩:aw)∉(cN (sv x i) m).1.aE:=by
 rw[tg h hi hm eO];have jQ:=h.inv.site hi;have hsj:=(ue (n:=(i:Int)) (jy.2 ⟨by omega,by omega⟩)).1;have hsf:=(ue (n:=m.aT) (jy.2 hf)).1;unfold dh;rw[if_neg om,if_neg om,if_neg om,if_pos hk];show _∉(jw _ _).aE;unfold jw;have c1:(cM m.aT&&(bM m.aT !=bM (sv x i).site))=true:=by
  rw[jy.2 hf,jQ];simp only[Bool.true_and,bne_iff_ne];omega
 by_cases hd:(⟨m.key,m.ar⟩:aw)∈(sv x i).aE
 .have hp:=oY.2 hd;rw[if_pos (by rw[c1,U];simpa using hp)];intro dr;obtain⟨k,k1,k2,k3⟩:=RR (l:=(sv x i).aE) dr;have Ny:=acV hp;have ha:=DH (h.inv.cT hi).aE;rcases Nat.lt_or_gt_of_ne k2 with bz|bz
  .exact yt ha bz Ny.1 (k3.trans Ny.2.symm)
  exact yt ha bz k1 (Ny.2.trans k3.symm)
 have hp:¬0<=fy (sv x i).aE ⟨m.key,m.ar⟩:=λh=>hd (oY.1 h);rw[if_neg (by rw[c1];simp;intro h;exact absurd h hp)];exact hd
def Ed {w:ai} (h:gE w) (hr:Rest w) {i:Nat} (hi:i<4):Phase w 5 (eP w i)/\(sv (eP w i) i).aE=[]:=by
 have hp:=Nx h hr hi;have hb:Phase w 5 (eP w i):=hp.qd aP 1000;refine⟨hb,List.eq_nil_iff_forall_not_mem.2 λd hd=>?_⟩;have xE:=hb.aE i hi d hd;revert hd;have U:=h.calm.inv.cT hi;obtain⟨v,a1,a2,a3⟩:=L3 (U.lN d xE);have zn:=sO (jn U (.inl a2));have gH:v.key=d.key:=congrArg aw.key a3;have eH:cP (sv w i) d.key=1:=by rw[<-gH];exact W4 h.calm.inv hr hi (.inl a2)
 obtain⟨j,hj,pZ,Nz⟩:=W5 h.calm.inv hr (acR hi) zn;have L7:=(ue (n:=(i:Int)) (jy.2 ⟨by omega,by omega⟩)).1;show¬d∈(sv (dm 1000 (bR w (ev 8 (i:Int) 0))) i).aE;refine Hz (R:=Phase w 5) (D:=λx=>¬d∈(sv x i).aE) (Q:=λm=>(m.kind=5/\m.aT=(i:Int)/\m.to=(j:Int)/\m.an=[v])\/(m.kind=6/\m.aT=(j:Int)/\m.to=(i:Int)/\(⟨m.key,m.ar⟩:aw)=d))
  (λx hx=>hx.calm.inv) (λx m r hx dD=>hx.pop aP dD) ?_ ?_ hp ?_
 .intro x m r hx dD hd dr;exact hd (W3 hx.calm hx.rest dD (by have:=hx.kinds m (by rw[dD];simp);omega) hi d dr)
 .intro x m r hx dD hq;have dr:m∈x.al:=by rw[dD];simp
  have hm:=hx.calm.inv.aN.words m dr;have g:=hx.calm.inv.words m dr;rcases hq with⟨q1,q2,q3,q4⟩|⟨q1,q2,q3,q4⟩
  .right;obtain⟨_,l,l1,l2⟩:=zF hx.calm.inv dD hj q3;rw[(aky hx hj hm g q1 q3 q4 om om Nz).1] at l2;refine⟨mF (sv x j) m v,by rw[l1,l2];simp,.inr ⟨rfl,hx.calm.inv.site hj,q2,?_⟩⟩;exact a3
  left;rw[(zF hx.calm.inv dD hi q3).1,<-q4];refine akB hx.calm hi hm q1 q3 om om ?_;have:m.key=d.key:=congrArg aw.key q4;unfold cP at*;rw[hx.aD i hi,this];exact eH
 right;rw[wc h.calm h.al hi];refine⟨{cn with kind:=5,aT:=(sv w i).site,to:=(j:Int),an:=(eK (sv w i).an d).toList},?_,.inl ⟨rfl,h.calm.inv.site hi,rfl,?_⟩⟩
 .show _∈ic (sv w i);unfold ic;rw[if_pos (h.calm.up i hi)];refine List.mem_append_left _ (List.mem_append_right _ (List.mem_flatten.2 ⟨jN (sv w i) d,List.mem_map.2 ⟨d,xE,rfl⟩,?_⟩));unfold jN;rw[if_pos (show(cP (sv w i) d.key==1)=true by rw[eH];rfl)];have et:bM (sv w i).site=(i:Int)/2:=by rw[h.calm.inv.site hi,L7]
  rcases(by omega:(j:Int)=2-2*bM (sv w i).site\/(j:Int)=2-2*bM (sv w i).site+1) with e|e
  .rw[e];exact List.mem_cons_self
  rw[e];exact List.mem_cons_of_mem _ List.mem_cons_self
 show(eK (sv w i).an d).toList=[v];rw[a1];rfl
def BC {w:ai} (h:gE w) (hr:Rest w) {i j:Nat} (hi:i<4) (hj:j<4) (ho:(sv w j).aE=[]):(sv (eP w i) j).aE=[]:=
 List.eq_nil_iff_forall_not_mem.2 λd hd=>by
  have:=(Ed h hr hi).1.aE j hj d hd;rw[ho] at this;simp at this
def akC {w:ai} (h:gE w) (hr:Rest w):y7 (jb w):=by
 have h1:=pj h (i:=0) aP;have h2:=pj h1 (i:=1) aP;have h3:=pj h2 (i:=2) aP;have r1:=hr.j3 h (i:=0) aP;have r2:=r1.j3 h1 (i:=1) aP;have r3:=r2.j3 h2 (i:=2) aP;intro i hi;unfold jb;rcases(by omega:i=0\/i=1\/i=2\/i=3) with rfl|rfl|rfl|rfl
 .exact BC h3 r3 aP hi (BC h2 r2 aP hi (BC h1 r1 aP hi (Ed h hr hi).2))
 .exact BC h3 r3 aP hi (BC h2 r2 aP hi (Ed h1 r1 hi).2)
 .exact BC h3 r3 aP hi (Ed h2 r2 hi).2
 exact(Ed h3 r3 hi).2
def akD {w:ai} (h:gE w) (hr:Rest w):Rest (jb w):=by
 have h1:=pj h (i:=0) aP;have h2:=pj h1 (i:=1) aP;have h3:=pj h2 (i:=2) aP;exact(((hr.j3 h (i:=0) aP).j3 h1 (i:=1) aP).j3 h2 (i:=2) aP).j3 h3 (i:=3) aP
def th.pop {w x:ai} (h:th w x) {m:az} {r:List az} (hx:x.al=m::r):th w (cU x):=
 ⟨h.ph.pop aP hx,λj hj v hv=>(h.at hx hj).1 v (h.an j hj v hv),λj hj v hv=>h.waits j hj v ((h.at hx hj).2.1 v hv)⟩
def akE {w:ai} (h:gE w) (hr:Rest w) (hp:y7 w) {i:Nat} (hi:i<4):th w (bR w (ev 8 (i:Int) 0)):=by
 have ph:=Nx h hr hi;have U:=zH h.calm h.al hi;refine⟨⟨ph.calm,ph.rest,?_,ph.aD,ph.aE⟩,λj _ v hv=>by rw[U];exact hv,λj _ v hv=>by rw[U] at hv;exact hv⟩;rw[wc h.calm h.al hi];show∀m∈ic (sv w i),7<=m.kind;intro m hm;unfold ic at hm;split at hm
 .rw[hp i hi] at hm;rcases List.mem_append.1 hm with hm|hm
  .rcases List.mem_append.1 hm with hm|hm
   .exfalso;obtain⟨k,hk,_⟩:=List.mem_map.1 hm;have h3:=Sz (h.calm.inv.cT hi) hk;unfold leaving at hk;have:=(List.mem_filter.1 hk).2;rw[beq_iff_eq] at this;exact hr i hi k h3 this
   simp at hm
  obtain⟨d,_,rfl⟩:=List.mem_map.1 hm;exact Int.le_refl _
 simp at hm
def akF {w:ai} (h:gE w) (hr:Rest w) (hp:y7 w) {i:Nat} (hi:i<4):th w (eP w i)/\∀v∈(sv (eP w i) i).waits,∃d∈v.aQ,¬∃u,be w (i/2) u/\u.aU=d:=by
 have h0:=akE h hr hp hi;have hb:th w (eP w i):=pg (R:=th w) (λ_ _ _ h hx=>h.pop hx) 1000 h0;refine⟨hb,λv hv=>Classical.byContradiction λhn=>?_⟩;have aM:∀d∈v.aQ,∃u,be w (i/2) u/\u.aU=d:=λd hd=>Classical.byContradiction λhc=>hn ⟨d,hd,hc⟩;have hvw:=hb.waits i hi v hv;have xG:=j1 hi;have seen:∀d∈v.aQ,eG (sv (eP w i) i) d=true:=λd hd=>by
  have key:v∈(sv (dm 1000 (bR w (ev 8 (i:Int) 0))) i).waits->eG (sv (dm 1000 (bR w (ev 8 (i:Int) 0))) i) d=true:=by
   refine Hz (R:=th w) (D:=λx=>v∈(sv x i).waits->eG (sv x i) d=true) (Q:=λm=>(m.kind=7/\m.aT=(i:Int)/\m.to=((bP i:Nat):Int)/\(⟨m.key,m.ar⟩:aw)=d)\/(m.kind=8/\m.aT=((bP i:Nat):Int)/\m.to=(i:Int)/\(⟨m.key,m.ar⟩:aw)=d))
    (λx hx=>hx.ph.calm.inv) (λx m r hx dD=>hx.pop dD) ?_ ?_ h0 ?_
   .intro x m r hx dD hD ng;have ha:=hx.at dD hi;exact ha.2.2 v d ng hd (hD (ha.2.1 v ng))
   .intro x m r hx dD hq;have dr:m∈x.al:=by rw[dD];simp
    have hm:=hx.ph.calm.inv.aN.words m dr;rcases hq with⟨q1,q2,q3,q4⟩|⟨q1,q2,q3,q4⟩
    .obtain⟨u,hu,e⟩:=aM d hd;by_cases W6:u∈(sv w i).an
     .left;intro _;exact KM ⟨u,(hx.at dD hi).1 u (hx.an i hi u W6),e⟩
     right;have W7:=hx.an _ xG u (hu.cases.resolve_left W6);obtain⟨_,l,l1,l2⟩:=zF hx.ph.calm.inv dD xG q3;have Ee:(cN (sv x (bP i)) m).2=[mZ (sv x (bP i)) m]:=by
      rw[tg hx.ph.calm xG hm q3];unfold dh;rw[if_neg om,if_neg om,if_neg om,if_neg om,if_pos q1];show lz _ m=_;unfold lz;obtain⟨y,y1,_⟩:=L3 (l:=(sv x (bP i)).an) (d:=⟨m.key,m.ar⟩) ⟨u,W7,by rw[q4];exact e⟩;rw[if_pos (by rw[y1,hx.ph.calm.inv.site xG,za,jA,q2];simp)]
     rw[Ee] at l2;exact⟨mZ (sv x (bP i)) m,by rw[l1,l2];simp,.inr ⟨rfl,hx.ph.calm.inv.site xG,q2,q4⟩⟩
    left;intro ng;have zw:=(hx.at dD hi).2.1 v ng;rw[(zF hx.ph.calm.inv dD hi q3).1,tg hx.ph.calm hi hm q3] at ng⊢;unfold dh at*;rw[if_neg om,if_neg om,if_neg om,if_neg om,if_neg om,if_pos q1] at*;have akH:((m.aT==fA (sv x i).site)&&iq (sv x i) ⟨m.key,m.ar⟩&&decide ((sv x i).ba.length<80))=true:=by
     have:=ake hx.ph.calm.inv hi;rw[q2,hx.ph.calm.inv.site hi,za,q4,Du.2 ⟨v,zw,hd⟩];simp;omega
    have hH:ib (sv x i) m=ef {sv x i with ba:=eA (sv x i).ba ⟨m.key,m.ar⟩}:=by
     unfold ib;rw[if_pos akH]
    show eG (ib (sv x i) m) d=true;have W8:v∈(ib (sv x i) m).waits:=ng;rw[hH] at W8⊢;exact U9 (LB (s:={sv x i with ba:=eA (sv x i).ba ⟨m.key,m.ar⟩}) (xp.2 (.inl q4.symm))) W8 hd
   by_cases U:eG (sv w i) d=true
   .left;intro _;rw[zH h.calm h.al hi];exact U
   right;rw[wc h.calm h.al hi];refine⟨nb (sv w i) d,?_,.inl ⟨rfl,h.calm.inv.site hi,?_,rfl⟩⟩
   .show _∈ic (sv w i);unfold ic;rw[if_pos (h.calm.up i hi)];exact List.mem_append_right _ (List.mem_map.2 ⟨d,(Ua (sv w i)).2.2 v hvw d hd (by simpa using U),rfl⟩)
   show fA (sv w i).site=_;rw[h.calm.inv.site hi,za]
  exact key hv
 have hc:=hb.ph.calm;have W9:=U8 (hc.more.done i hi) (by have:=Ns hc.inv hi;omega) hv;have:iC (sv (eP w i) i) v=true:=by
  unfold iC;rw[W4 hc.inv hb.ph.rest hi (.inr hv),KA.2 seen];rfl
 rw[this] at W9;cases W9
def Xa {w:ai} (h:Inv w) (hp:y7 w) {σ:Nat} {v:aA} (hv:be w σ v) (U:bM v.ar.site=(σ:Int)):mY w (1-σ) v:=by
 have key:∀i,i<4->i/2=σ->v∈(sv w i).an->¬behind (sv w i) (sv w (bP i)) (vk v)->mY w (1-σ) v:=λi hi e Ef hb=>by
  rcases h.q8 i hi v Ef (by rw[e];exact U) hb with h1|h1
  .rw[hp i hi] at h1;simp at h1
  rw[e] at h1;exact h1
 obtain⟨i,hi,e,Ef⟩:=hv;by_cases hb:behind (sv w i) (sv w (bP i)) (vk v)
 .have h2:=h.p9 i hi v Ef hb;exact key (bP i) (j1 hi) (by rw[ou];exact e) h2 (by rw[jA];exact Mg (h.fits i hi _ (sO (jn (h.cT hi) (.inl Ef)))) hb)
 exact key i hi e Ef hb
def Xb {w:ai} (h:Inv w) {σ:Nat} {v:aA} (hv:be w σ v):v.aj.toNat<2/\((v.aj.toNat:Nat):Int)=v.aj:=by
 obtain⟨q,hq,e,_⟩:=h.made σ v hv;have:=pe h.aN hq;rwa[e] at this
structure ie (w:ai) (r:Int):Prop where
 still:gE w
 rest:Rest w
 uE:y7 w
 dz:∀i,i<4->∀v∈(sv w i).waits,r<v.ar.time
def akI {w:ai} {r:Int} (h:ie w r) {i:Nat} (hi:i<4) {v:aA} (hv:v∈(sv w i).waits) (ht:v.ar.time<=r+1) {d:aw} (hd:d∈v.aQ):∃u,be w (i/2) u/\u.aU=d:=by
 have hI:=h.still.calm.inv;have qA:=hI.lU i hi v hv;obtain⟨u,e,hu⟩:=Bt hI qA hd;have htm:=aeF (hI.Hu qA) hd;have W7:u.ar.time=d.ar.time:=by rw[<-e];rfl
 obtain⟨h1,h2⟩:=hI.home _ u hu;have hc:=Xb hI hu;refine⟨u,?_,e⟩;by_cases U:u.aj.toNat=i/2
 .rw[<-U];exact h2
 have hx:=Xa hI h.uE h2 (by rw[h1,hc.2]);rw[show 1-u.aj.toNat=i/2 by omega] at hx;obtain⟨j,hj,ej,pZ|pZ⟩:=hx
 .exact⟨j,hj,ej,pZ⟩
 have:=h.dz j hj u pZ;omega
def ie.j3 {w:ai} {r:Int} (h:ie w r) {i:Nat} (hi:i<4):ie (eP w i) r/\(∀v∈(sv (eP w i) i).waits,r+1<v.ar.time)/\th w (eP w i):=by
 obtain⟨ht,hw⟩:=akF h.still h.rest h.uE hi;refine⟨⟨pj h.still hi,ht.ph.rest,λj hj=>List.eq_nil_iff_forall_not_mem.2 λd hd=>?_,λj hj v hv=>h.dz j hj v (ht.waits j hj v hv)⟩,λv hv=>?_,ht⟩
 .have:=ht.ph.aE j hj d hd;rw[h.uE j hj] at this;simp at this
 rcases Int.lt_or_le (r+1) v.ar.time with bz|hle
 .exact bz
 obtain⟨d,hd,hn⟩:=hw v hv;exact absurd (akI h hi (ht.waits i hi v hv) hle hd) hn
def ie.Xc {w:ai} {r:Int} (h:ie w r):ie (jb w) (r+1)/\(∀j,j<4->∀v∈(sv w j).an,v∈(sv (jb w) j).an)/\(∀j,j<4->(sv (jb w) j).aD=(sv w j).aD)/\∀j,j<4->∀v∈(sv (jb w) j).waits,v∈(sv w j).waits:=by
 obtain⟨q1,o1,t1⟩:=h.j3 (i:=0) aP;obtain⟨q2,o2,t2⟩:=q1.j3 (i:=1) aP;obtain⟨q3,o3,t3⟩:=q2.j3 (i:=2) aP;obtain⟨q4,o4,t4⟩:=q3.j3 (i:=3) aP;unfold jb;refine⟨⟨q4.still,q4.rest,q4.uE,λi hi v hv=>?_⟩,λj hj v hv=>t4.an j hj v (t3.an j hj v (t2.an j hj v (t1.an j hj v hv))),λj hj=>(t4.ph.aD j hj).trans ((t3.ph.aD j hj).trans ((t2.ph.aD j hj).trans (t1.ph.aD j hj))),λj hj v hv=>t1.waits j hj v (t2.waits j hj v (t3.waits j hj v (t4.waits j hj v hv)))⟩;rcases(by omega:i=0\/i=1\/i=2\/i=3) with rfl|rfl|rfl|rfl
 .exact o1 v (t2.waits _ hi v (t3.waits _ hi v (t4.waits _ hi v hv)))
 .exact o2 v (t3.waits _ hi v (t4.waits _ hi v hv))
 .exact o3 v (t4.waits _ hi v hv)
 exact o4 v hv
def Xd {w:ai} (h:ie w 20) {i:Nat} (hi:i<4):(sv w i).waits=[]/\(sv w i).ba=[]:=by
 have hc:=h.still.calm;have hw:(sv w i).waits=[]:=List.eq_nil_iff_forall_not_mem.2 λv hv=>by
  have h1:=h.dz i hi v hv;have h2:=WQ hc.inv hc.more.MU (hc.inv.lU i hi v hv);omega
 refine⟨hw,List.eq_nil_iff_forall_not_mem.2 λd hd=>?_⟩;obtain⟨v,hv,_⟩:=Du.1 (hc.more.V5 i hi d hd);rw[hw] at hv;simp at hv
def NA:∀{l m:List aA},VS l->VS m->(∀v,v∈l↔v∈m)->l=m
 |[],[],_,_,_=>rfl
 |[],x::m,_,_,h=>by have:=(h x).2 bn;simp at this
 |x::l,[],_,_,h=>by have:=(h x).1 bn;simp at this
 |x::l,y::m,h1,h2,h=>by
  unfold VS at h1 h2;rw[List.pairwise_cons] at h1 h2;have NB:∀v:aA,fP v v=true->False:=λv hv=>by unfold fP at hv;rw[wV] at hv;cases hv
  have e:x=y:=by
   rcases List.mem_cons.1 ((h x).1 bn) with e|hx
   .exact e
   rcases List.mem_cons.1 ((h y).2 bn) with e|hy
   .exact e.symm
   exact(NB x (RQ (h1.1 y hy) (h2.1 x hx))).elim
  subst e;rw[NA (l:=l) (m:=m) h1.2 h2.2 λv=>⟨λhv=>?_,λhv=>?_⟩]
  .rcases List.mem_cons.1 ((h v).1 (by simp[hv])) with rfl|h3
   .exact(NB _ (h1.1 _ hv)).elim
   exact h3
  rcases List.mem_cons.1 ((h v).2 (by simp[hv])) with rfl|h3
  .exact(NB _ (h2.1 _ hv)).elim
  exact h3
def HD {w:ai} (h:ie w 20) {σ τ:Nat} (hτ:τ<2) {v:aA} (hv:be w σ v):be w τ v:=by
 have hI:=h.still.calm.inv;obtain⟨h1,h2⟩:=hI.home _ v hv;have hc:=Xb hI hv;by_cases U:v.aj.toNat=τ
 .rw[<-U];exact h2
 have hx:=Xa hI h.uE h2 (by rw[h1,hc.2]);rw[show 1-v.aj.toNat=τ by omega] at hx;obtain⟨j,hj,ej,pZ|pZ⟩:=hx
 .exact⟨j,hj,ej,pZ⟩
 rw[(Xd h hj).1] at pZ;simp at pZ
def Xe {w:ai} (h:ie w 20):cg w 0=cg w 1:=
 NA (zB (σ:=0) h.still.calm.inv aP) (zB (σ:=1) h.still.calm.inv aP) λv=>by
  rw[show(0:Int)=((0:Nat):Int) from rfl,show(1:Int)=((1:Nat):Int) from rfl,kH h.still.calm.inv aP,kH h.still.calm.inv aP];exact⟨HD h aP,HD h aP⟩
def NC {w:ai} (h:ie w 20) (ht:w.time<=99999):mI w=true:=by
 have hc:=h.still.calm;unfold mI;simp only[Bool.and_eq_true,decide_eq_true_eq];refine⟨⟨⟨fD.2 ⟨hc.inv.aN,ht⟩,by rw[h.still.al];rfl⟩,gF.2 λi hi=>?_⟩,Xe h⟩;rw[hc.inv.aN.aC] at hi;obtain⟨h1,h2⟩:=Xd h hi;show _root_.Go.Proofs.YtldbakcpcfdlaaaGreat.calm (sv w i)=true;unfold calm;rw[hc.up i hi,h1,h2,h.uE i hi];have:hasB (λx:de=>x.cm==2) (sv w i).aD=false:=by
  rw[<-Bool.not_eq_true,CP];rintro⟨x,hx,e⟩;obtain⟨k,hk,rfl⟩:=fS hx;rw[(hc.inv.cT hi).aD] at hk;exact h.rest i hi k hk (by simpa using e)
 rw[this];rfl
def Xf (w:ai) (e:Ev):ur w.calls (bR w e).calls:=by
 unfold bR;split
 .exact akc w e
 exact .inl rfl
def ur.Xg {x:ai} {e:Ev} {n:Nat} (hn:n<x.calls.length) (h:bV (ab x.calls n)=false):ab (bR x e).calls n=ab x.calls n:=(Xf x e).ended hn h
def Xh {x:ai} (h:bX x) {n:Nat} (hn:n<x.calls.length) (hw:bV (ab x.calls n)=true):cq x.calls (ab x.calls n).aj=(n:Int):=by
 have hb:sK (ab x.calls n).aj (ab x.calls n)=true:=by
  obtain⟨h1,h2⟩:=oZ hw;unfold sK;rw[h1,h2];simp
 have h0:0<=cq x.calls (ab x.calls n).aj:=U7 (p:=sK (ab x.calls n).aj) hn hb;obtain⟨a1,a2,a3⟩:=na h0;rcases Nat.lt_trichotomy (cq x.calls (ab x.calls n).aj).toNat n with bz|he|vg
 .exact absurd a2.symm (DR h a3 bz hn)
 .omega
 exact absurd a2 (DR h hw vg a1)
def xJ {x:ai} {m:az} {r:List az} (hr:x.al=m::r):(cU x).calls=x.calls\/∃n,n<x.calls.length/\bV (ab x.calls n)=true/\(cU x).calls=x.calls.set n (cQ (ab x.calls n) m (x.time+1)):=by
 rw[xI hr];split
 .by_cases h0:cq x.calls (m.to-10)<0
  .left;unfold jC;dsimp only;rw[if_pos h0]
  right;obtain⟨a1,a2,a3⟩:=na (l:=x.calls) (aj:=m.to-10) om;exact⟨_,a1,a3,Up (x:={x with time:=x.time+1,al:=r}) (show cq x.calls (m.to-10)=(((cq x.calls (m.to-10)).toNat:Nat):Int) by omega)⟩
 exact .inl rfl
def akK {x:ai} (h:Inv x) {m:az} {r:List az} (hr:x.al=m::r) {n:Nat} (hn:n<x.calls.length) (hw:bV (ab x.calls n)=true) (eO:m.to=10+(ab x.calls n).aj):(cU x).calls=x.calls.set n (cQ (ab x.calls n) m (x.time+1)):=by
 have hc:=pe h.aN (bh hn);rw[xI hr,if_pos (by simp only[aJ,Bool.and_eq_true,decide_eq_true_eq];omega)];refine Up (x:={x with time:=x.time+1,al:=r}) ?_;rw[show m.to-10=(ab x.calls n).aj by omega];exact Xh h.aN hn hw
structure Ask (w:ai) (n:Nat) (x:ai):Prop where
 calm:Calm x
 rest:Rest x
 aD:∀j,j<4->(sv x j).aD=(sv w j).aD
 len:n<x.calls.length
 same:j2 (ab w.calls n) (ab x.calls n)
def Ask.pop {w x:ai} {n:Nat} (h:Ask w n x) {m:az} {r:List az} (hx:x.al=m::r):Ask w n (cU x) where
 calm:=h.calm.pop hx
 rest:=λi hi k hk=>by rw[BB h.calm h.rest hx hi];exact h.rest i hi k hk
 aD:=λj hj=>by rw[BB h.calm h.rest hx hj];exact h.aD j hj
 len:=Nat.lt_of_lt_of_le h.len (Xf x _).len.1
 same:=by
  rcases xJ hx with e|⟨k,hk,_,e⟩
  .rw[e];exact h.same
  rw[e,fC hk];split
  .rename_i e2;rw[<-e2];exact h.same.trans (Hd _ _ _)
  exact h.same
def begun {x:ai} (h:Inv x) {n:Nat} (hn:n<x.calls.length):(ab x.calls n).bH<x.time+1:=by
 have:=(h.aN.call hn).bH;omega
def ND {x:ai} (h:Inv x) {n:Nat} (hn:n<x.calls.length) (hw:bV (ab x.calls n)=true) {m:az} (hm:bK m=true) (eO:m.to=10+(ab x.calls n).aj) (hc:m.call=(ab x.calls n).num) (hk:iE (ab x.calls n).keys m.key=true):
 cQ (ab x.calls n) m (x.time+1)=if(ab x.calls n).kind=1 then(if m.kind=2/\dB m.ar=true then{ab x.calls n with ar:=m.ar,end_:=x.time+1} else ab x.calls n) else iw (ab x.calls n) m (x.time+1):=by
 unfold cQ;rw[if_pos];have:=begun h hn;rw[hm,eO,hc,hk,hw];simpa using this
def Xi {l:List aA} (hl:VS l) {key:Int} {x:aA} (hx:x∈l) (hk:x.key=key):∃t,dY l key=some t/\(x=t\/fP x t=true):=by
 have hp:pV key x=true:=by simpa[pV] using hk
 cases ht:dY l key with
 |none=>
  unfold dY at ht
  rw[List.find?_eq_none] at ht
  exact absurd hp (ht x (List.mem_reverse.2 hx))
 |some t=>
  refine⟨t,rfl,?_⟩
  unfold dY at ht
  obtain⟨_,Mi,bs,e,kS⟩:=List.find?_eq_some_iff_append.1 ht
  have e2:l=bs.reverse++t::Mi.reverse:=by
   have:=congrArg List.reverse e;simpa using this
  rw[e2] at hx hl
  rcases List.mem_append.1 hx with h1|h1
  .exact .inr ((List.pairwise_append.1 hl).2.2 x h1 t bn)
  rcases List.mem_cons.1 h1 with h1|h1
  .exact .inl h1
  have:=kS x (List.mem_reverse.1 h1)
  rw[hp] at this;cases this
def akL {x:ai} (h:Calm x) {j:Nat} (hj:j<4) {m:az} (hm:bK m=true) (g:eL x m) (hk:m.kind=1) (eO:m.to=(j:Int)) (hf:10<=m.aT/\m.aT<=11) (hc:1<=m.call) (U:cP (sv x j) m.key=1):∃st,dB st=true/\(cN (sv x j) m).2=[nF (sv x j) m st]:=by
 rw[tg h hj hm eO];have Bj:=h.inv.cT hj;have NF:=ma hm;unfold dh;rw[if_pos hk];unfold gC;have ml:(aJ m.aT 10 11&&decide (1<=m.call)&&fE (sv x j) m.key)=true:=by
  unfold fE;rw[U,Ds hm];simp[aJ,hf,hc]
 rw[if_pos ml];split
 .rename_i v hv;exact⟨v.ar,(iW (fw Bj.an v (KV hv).1)).2.1,rfl⟩
 have akM:∀s∈fB (sv x j) m,s.time<=20:=λs U=>by
  obtain⟨τ,u,hu,e⟩:=WO h.inv hj g hk U;have:=WQ h.inv h.more.MU hu;rw[e] at this;exact this
 have hM:0<=jz (fB (sv x j) m)/\jz (fB (sv x j) m)<=20:=by
  refine⟨(F0 _ 0).1,?_⟩;rcases Kx (fB (sv x j) m) 0 with e|⟨s,U,e⟩
  .unfold jz;rw[e];decide
  unfold jz;rw[<-e];exact akM s U
 have Xj:jM (fB (sv x j) m)=true:=by unfold jM;rw[decide_eq_true_eq];omega
 have bj:(eV (sv x j) m).ar=⟨jz (fB (sv x j) m)+1,(sv x j).site⟩:=by
  show og _ _=_;unfold og;rw[if_pos Xj]
 have dq:dB (eV (sv x j) m).ar=true:=by
  rw[bj];unfold dB;rw[Bool.and_eq_true];exact⟨by simp only[aJ,Bool.and_eq_true,decide_eq_true_eq];omega,Bj.site⟩
 have A3:dN (eV (sv x j) m)=true:=by
  unfold dN;simp only[Bool.and_eq_true];refine⟨⟨⟨⟨⟨⟨Ds hm,dq⟩,?_⟩,?_⟩,?_⟩,NF.2.2.2.2.2.2.2.1⟩,?_⟩
  .show aJ m.val 0 9999=true;simp only[aJ,Bool.and_eq_true,decide_eq_true_eq];exact NF.2.2.2.2.2.2.1
  .show eF (m.aT-10)=true;exact qS.2 om
  .show aJ m.call 1 99=true;simp only[aJ,Bool.and_eq_true,decide_eq_true_eq];exact⟨hc,NF.2.2.2.1.2⟩
  unfold E8;rw[tY (p:=λd:aw=>decide (d.ar.time<(eV (sv x j) m).ar.time))];intro d hd;rw[decide_eq_true_eq,bj];have:d.ar.time<=jz (fB (sv x j) m):=(F0 (fB (sv x j) m) 0).2 _ (by unfold fB;exact List.mem_append_left _ (List.mem_map.2 ⟨d,hd,rfl⟩));show d.ar.time<jz (fB (sv x j) m)+1;omega
 have Hh:iO (sv x j).an (eV (sv x j) m)=true:=by
  unfold iO;rw[A3];simp only[Bool.and_eq_true,decide_eq_true_eq];refine⟨⟨trivial,yn λv hv e=>?_⟩,by have:=Ns h.inv hj;omega⟩;have ek:v.key=m.key:=congrArg aw.key e;have es:v.ar=(eV (sv x j) m).ar:=congrArg aw.ar e;obtain⟨t,ht,hle⟩:=Xi (pU Bj.an) hv ek;have h1:t.ar.time<=jz (fB (sv x j) m):=(F0 (fB (sv x j) m) 0).2 _ (by unfold fB;rw[ht];simp);have h2:v.ar.time=jz (fB (sv x j) m)+1:=by rw[es,bj]
  rcases hle with rfl|hle
  .omega
  have eR:=(uj ht).2;unfold fP eQ at hle;have e3:v.aU.key=t.aU.key:=ek.trans eR.symm;rw[e3] at hle;simp[bQ] at hle;have e4:v.aU.ar=v.ar:=rfl;have e5:t.aU.ar=t.ar:=rfl;rw[e4,e5] at hle;omega
 rw[Xj,Hh,decide_eq_true (show(sv x j).aE.length<80 by have:=WN h.inv hj;omega)];exact⟨_,dq,rfl⟩
def akN {q:Call} {t:Int} (h:dJ q t):(gD q).length<=60:=by
 have hk:q.keys.length<=3:=by
  have:=h.keys;unfold fU at this;simp only[Bool.and_eq_true,Bool.or_eq_true,beq_iff_eq,aJ,decide_eq_true_eq] at this;omega
 have hn:=iV h.aL;have ha:(asks q).length<=9:=by
  unfold asks;split
  .simp
  rw[List.length_append,List.length_map,List.length_map];have:=List.length_filter_le (λk=>decide (cv q k<0)) q.keys;omega
 unfold gD;split
 .have:=KB (f:=jq q) (n:=2) (λ_=>by simp[jq]) (asks q);omega
 simp
def zI {w:ai} (h:gE w) {n:Nat} (hn:n<w.calls.length) (hw:bV (ab w.calls n)=true):bR w (ev 2 0 (ab w.calls n).aj)={w with time:=w.time+1,al:=gD (ab w.calls n)}:=by
 have hk:(ev 2 0 (ab w.calls n).aj).kind=2:=rfl;have LO:=Xh h.calm.inv.aN hn hw;have hd:cD w (ev 2 0 (ab w.calls n).aj)=({w with time:=w.time+1,al:=eN w.al (gD (ab w.calls n))},true):=by
  unfold cD;dsimp only;rw[if_pos om];unfold g7;dsimp only;rw[if_neg om,show(ev 2 0 (ab w.calls n).aj).aj=(ab w.calls n).aj from rfl,LO,if_neg om,if_neg om,Int.toNat_natCast]
 unfold bR;rw[hd];dsimp only;rw[if_pos rfl,h.al,Lz (by have:=akN (h.calm.inv.aN.call hn);simp;omega)];rfl
def zJ {w:ai} (h:gE w) (hr:Rest w) {n:Nat} (hn:n<w.calls.length) (hw:bV (ab w.calls n)=true):Ask w n (bR w (ev 2 0 (ab w.calls n).aj)):=by
 have e:=zI h hn hw;have U:∀j,sv (bR w (ev 2 0 (ab w.calls n).aj)) j=sv w j:=λj=>by rw[e];rfl
 refine⟨h.calm.frame (q9 h.calm.inv _) (h.calm.more.lift h.calm.inv _) (by rw[e]),λi hi k hk=>by rw[U];exact hr i hi k hk,λj _=>by rw[U],by rw[e];exact hn,?_⟩;rw[e];exact j2.refl _
def NG {w:ai} (h:gE w) (hr:Rest w) {n:Nat} (hn:n<w.calls.length) (hw:bV (ab w.calls n)=true) {m0:az} (h0:m0∈asks (ab w.calls n)) (gH:du m0.key=true) {D E:ai->Prop} {A:az->Prop}
 (hE0:∀x,x.calls=w.calls->E x) (hE:∀x m r,Ask w n x->x.al=m::r->E x->E (cU x)) (rY:∀x m r,Ask w n x->E x->x.al=m::r->D x->D (cU x)) (lT:∀x,bV (ab x.calls n)=false->D x)
 (akP:∀x j,j<4->Ask w n x->E x->¬D x->cP (sv x j) m0.key=1->j/2=(ab w.calls n).aj.toNat->∀m,m={m0 with aT:=10+(ab w.calls n).aj,to:=(j:Int),call:=(ab w.calls n).num}->bK m=true->eL x m->∃y,(cN (sv x j) m).2=[y]/\y.to=m.aT/\A y)
 (Eg:∀x m r,Ask w n x->E x->x.al=m::r->bV (ab x.calls n)=true->m.to=10+(ab x.calls n).aj->A m->bK m=true->(cU x).calls=x.calls.set n (cQ (ab x.calls n) m (x.time+1))->D (cU x)):
 D (fm w (ab w.calls n).aj.toNat):=by
 have bq:=pe h.calm.inv.aN (bh hn);have e:=zI h hn hw;have U:=zJ h hr hn hw;have kY:(cV m0.key).toNat<3:=by have:=Gy gH;omega
 obtain⟨j,hj,pZ,Nz⟩:=W5 h.calm.inv hr bq.1 kY;show D (dm 1000 (bR w (ev 2 0 (((ab w.calls n).aj.toNat:Nat):Int))));rw[bq.2];refine Hz (R:=λx=>Ask w n x/\E x) (D:=D) (Q:=λm=>m={m0 with aT:=10+(ab w.calls n).aj,to:=(j:Int),call:=(ab w.calls n).num}\/(m.to=10+(ab w.calls n).aj/\A m)) (λx hx=>hx.1.calm.inv) (λx m r hx dD=>⟨hx.1.pop dD,hE x m r hx.1 dD hx.2⟩) (λx m r hx dD=>rY x m r hx.1 hx.2 dD) ?_ ⟨U,hE0 _ (by rw[e])⟩ ?_
 .rintro x m r ⟨hx,NH⟩ dD hq;by_cases hD:D x
  .exact .inl (rY x m r hx NH dD hD)
  have dr:m∈x.al:=by rw[dD];simp
  have hm:=hx.calm.inv.aN.words m dr;have g:=hx.calm.inv.words m dr;rcases hq with rfl|⟨q1,q2⟩
  .right;obtain⟨y,y1,y2,y3⟩:=akP x j hj hx NH hD (by unfold cP;rw[hx.aD j hj];exact Nz) pZ _ rfl hm g;obtain⟨_,l,l1,l2⟩:=zF hx.calm.inv dD hj (show _=(j:Int) from rfl);rw[y1] at l2;exact⟨y,by rw[l1,l2];simp,.inr ⟨y2,y3⟩⟩
  left;cases pk:bV (ab x.calls n) with
  |false=>exact lT _ (by unfold cU;rw[ur.Xg hx.len pk];exact pk)
  |true=>
   have eO:m.to=10+(ab x.calls n).aj:=by rw[hx.same.1];exact q1
   exact Eg x m r hx NH dD pk eO q2 hm (akK hx.calm.inv dD hx.len pk eO)
 right;rw[e];refine⟨_,?_,.inl rfl⟩;show _∈gD (ab w.calls n);unfold gD;rw[if_pos hw];refine List.mem_flatten.2 ⟨_,List.mem_map.2 ⟨m0,h0,rfl⟩,?_⟩;unfold jq;rcases(by omega:(j:Int)=2*(ab w.calls n).aj\/(j:Int)=2*(ab w.calls n).aj+1) with e2|e2
 .rw[e2];exact List.mem_cons_self
 rw[e2];exact List.mem_cons_of_mem _ List.mem_cons_self
def Xk {q:Call} {t:Int} (h:dJ q t):ab q.keys 0∈q.keys:=bh (by
 have:=h.keys;unfold fU at this;simp only[Bool.and_eq_true,Bool.or_eq_true,beq_iff_eq,aJ,decide_eq_true_eq] at this;omega)
def akQ {w:ai} (h:gE w) (hr:Rest w) {n:Nat} (hn:n<w.calls.length) (hw:bV (ab w.calls n)=true) (hk:(ab w.calls n).kind=1):bV (ab (fm w (ab w.calls n).aj.toNat).calls n)=false:=by
 have hg:=h.calm.inv.aN.call hn;have bq:=pe h.calm.inv.aN (bh hn);have gH:du (ab (ab w.calls n).keys 0)=true:=by
  have:=MC hg (lR.2 (Xk hg));simp only[du,aJ,Bool.and_eq_true,decide_eq_true_eq];omega
 refine NG h hr hn hw (m0:={cn with kind:=1,key:=ab (ab w.calls n).keys 0,val:=(ab w.calls n).val,aQ:=(ab w.calls n).ctx}) (by unfold asks;rw[if_pos hk];simp) gH
  (D:=λx=>bV (ab x.calls n)=false) (A:=λy=>y.kind=2/\dB y.ar=true/\y.call=(ab w.calls n).num/\y.key=ab (ab w.calls n).keys 0) (E:=λ_=>True) (λ_ _=>trivial) (λ_ _ _ _ _ _=>trivial) ?_ (λ_ h=>h) ?_ ?_
 .intro x m r hx _ dD hd;unfold cU;rw[ur.Xg hx.len hd];exact hd
 .rintro x j hj hx _ _ bj NI m rfl hm g;obtain⟨st,s1,s2⟩:=akL hx.calm hj hm g rfl rfl (by show 10<=10+_/\10+_<=11;omega) hg.num.1 bj;exact⟨_,s2,rfl,rfl,s1,rfl,rfl⟩
 rintro x m r hx _ dD pk eO ⟨a1,a2,a3,a4⟩ hm Eh;rw[Eh,fC hx.len,if_pos rfl,ND hx.calm.inv hx.len pk hm eO (by rw[hx.same.2.1];exact a3) (by rw[hx.same.2.2.2.1,a4];exact lR.2 (Xk hg)),if_pos (by rw[hx.same.2.2.1];exact hk),if_pos ⟨a1,a2⟩];unfold bV;have:=hx.calm.inv.aN.time;rw[Bool.and_eq_false_iff];left;simp only[beq_eq_false_iff_ne];omega
def Xl {q:Call} {key:Int} (h:∃a∈q.au,a.key=key) (m:az) (t:Int):∃a∈(cQ q m t).au,a.key=key:=by
 obtain⟨a,ha,e⟩:=h;have same:∀{p:Call},p.au=q.au->∃a∈p.au,a.key=key:=λhp=>⟨a,by rw[hp];exact ha,e⟩;unfold cQ;split
 .split
  .split
   .exact same rfl
   exact same rfl
  unfold iw;split
  .split
   .split
    .have hi:∃a∈dj q.au (cX m),a.key=key:=⟨a,oW.2 (.inr ha),e⟩;unfold mb;dsimp only;split
     .exact hi
     unfold kV;split
     .exact hi
     exact hi
    exact same rfl
   rename_i hp;split
   .unfold lu;split
    .have hh:=vP (q:=q) (key:=m.key) om;have U:∃b∈q.au.set (cv q (cX m).key).toNat (cX m),b.key=key:=by
      obtain⟨k,hk,rfl⟩:=fS ha;by_cases e2:k=(cv q m.key).toNat
      .refine⟨cX m,Ll (by show(cv q m.key).toNat<_;exact hh.1),?_⟩;rw[<-e,e2,hh.2];rfl
      exact⟨_,Lm hk e2,e⟩
     dsimp only;split
     .exact U
     exact U
    exact same rfl
   exact same rfl
  exact same rfl
 exact same rfl
def Xm {x:ai} {m:az} {r:List az} (hx:x.al=m::r) {n:Nat} (h:nd (ab x.calls n)):nd (ab (cU x).calls n):=by
 rcases xJ hx with e|⟨k,hk,ox,e⟩
 .rw[e];exact h
 rw[e,fC hk];split
 .rename_i e2;subst e2;intro _;obtain⟨h1,h2⟩:=h ox;have hS:=Hd (ab x.calls n) m (x.time+1);exact⟨by rw[hS.2.2.1];exact h1,λκ hκ=>Xl (h2 κ (by rw[hS.2.2.2.1] at hκ;exact hκ)) m _⟩
 exact h
def Xn {x:ai} (h:Calm x) {j:Nat} (hj:j<4) {m:az} (hm:bK m=true) (hk:m.kind=3) (eO:m.to=(j:Int)) (hf:10<=m.aT/\m.aT<=11) (hc:1<=m.call) (U:cP (sv x j) m.key=1):
 (cN (sv x j) m).2=if dw m.ar then[lS (sv x j) m (dY (sv x j).an m.key)] else match eK (sv x j).an ⟨m.key,m.ar⟩ with|some v=>[lS (sv x j) m (some v)]|none=>[]:=by
 rw[tg h hj hm eO];unfold dh;rw[if_neg om,if_pos hk];have ml:(aJ m.aT 10 11&&decide (1<=m.call)&&fE (sv x j) m.key)=true:=by
  unfold fE;rw[U,Ds hm];simp[aJ,hf,hc]
 show gR _ _=_;unfold gR;rw[if_pos ml];rfl
def akR {w:ai} (h:gE w) (hr:Rest w) {n:Nat} (hn:n<w.calls.length) (hw:bV (ab w.calls n)=true) (hk:(ab w.calls n).kind≠1) {κ:Int} (hκ:κ∈(ab w.calls n).keys):bV (ab (fm w (ab w.calls n).aj.toNat).calls n)=true->∃a∈(ab (fm w (ab w.calls n).aj.toNat).calls n).au,a.key=κ:=by
 have hg:=h.calm.inv.aN.call hn;have bq:=pe h.calm.inv.aN (bh hn);have rY:∀x m r,Ask w n x->x.al=m::r->(bV (ab x.calls n)=true->∃a∈(ab x.calls n).au,a.key=κ)->(bV (ab (cU x).calls n)=true->∃a∈(ab (cU x).calls n).au,a.key=κ):=by
  intro x m r hx dD hd;rcases xJ dD with e|⟨k,hk,ox,e⟩
  .rw[e];exact hd
  rw[e,fC hk];split
  .rename_i e2;subst e2;exactλ_=>Xl (hd ox) m _
  exact hd
 by_cases h0:∃a∈(ab w.calls n).au,a.key=κ
 .have U:=zJ h hr hn hw;have e:=zI h hn hw;have:=pg (R:=λx=>Ask w n x/\(bV (ab x.calls n)=true->∃a∈(ab x.calls n).au,a.key=κ)) (λx m r hx dD=>⟨hx.1.pop dD,rY x m r hx.1 dD hx.2⟩) 1000 ⟨U,λ_=>by rw[e];exact h0⟩;show bV (ab (dm 1000 (bR w (ev 2 0 (((ab w.calls n).aj.toNat:Nat):Int)))).calls n)=true->∃a∈(ab (dm 1000 (bR w (ev 2 0 (((ab w.calls n).aj.toNat:Nat):Int)))).calls n).au,a.key=κ;rw[bq.2];exact this.2
 have akS:cv (ab w.calls n) κ<0:=by
  rcases Int.lt_or_le (cv (ab w.calls n) κ) 0 with bz|hle
  .exact bz
  exact absurd (xg.1 hle) h0
 have hkr:=MC hg (lR.2 hκ);refine NG h hr hn hw (m0:={cn with kind:=3,key:=κ}) ?_ (by show du κ=true;simp only[du,aJ,Bool.and_eq_true,decide_eq_true_eq];omega)
  (D:=λx=>bV (ab x.calls n)=true->∃a∈(ab x.calls n).au,a.key=κ) (A:=λy=>y.kind=4/\y.call=(ab w.calls n).num/\y.key=κ/\dw y.ar=true/\(y.yes=true->y.an.length=1/\(ab y.an 0).key=y.key)) (E:=λ_=>True) (λ_ _=>trivial) (λ_ _ _ _ _ _=>trivial) (λx m r hx _=>rY x m r hx) (λx h1 h2=>by rw[h1] at h2;cases h2) ?_ ?_
 .unfold asks;rw[if_neg hk];exact List.mem_append_left _ (List.mem_map.2 ⟨κ,List.mem_filter.2 ⟨hκ,by simpa using akS⟩,rfl⟩)
 .rintro x j hj hx _ _ bj NI m rfl hm g;have Ee:=Xn hx.calm hj hm rfl rfl (by show 10<=10+_/\10+_<=11;omega) hg.num.1 bj;refine⟨_,Ee.trans (if_pos rfl),rfl,rfl,rfl,rfl,rfl,λhy=>?_⟩;obtain⟨v,hv⟩:=Option.isSome_iff_exists.1 hy;have ng:dY (sv x j).an κ=some v:=hv;show((dY (sv x j).an κ).toList).length=1/\(ab ((dY (sv x j).an κ).toList) 0).key=κ;rw[ng];exact⟨rfl,(uj ng).2⟩
 rintro x m r hx _ dD pk eO ⟨a1,a2,a3,a4,a5⟩ hm Eh _;rw[Eh,fC hx.len,if_pos rfl,ND hx.calm.inv hx.len pk hm eO (by rw[hx.same.2.1];exact a2) (by rw[hx.same.2.2.2.1,a3];exact lR.2 hκ),if_neg (by rw[hx.same.2.2.1];exact hk)];have:=aif (q:=ab x.calls n) (t:=x.time+1) a1 a5 a4;rwa[a3] at this
def akT {q:Call} {t:Int} (h:dJ q t):q.keys.Pairwise λa b=>a≠b:=by
 have:=h.keys;unfold fU jZ at this;rw[Bool.and_eq_true,FO (less:=nI) (λh1 h2=>by unfold nI at*;rw[decide_eq_true_eq] at*;omega)] at this;exact this.1.2.imp λ{a b} hl e=>by unfold nI at hl;rw[decide_eq_true_eq] at hl;omega
def Xo {q:Call} {t:Int} (h:dJ q t) (aM:∀κ∈q.keys,∃a∈q.au,a.key=κ):q.au.length=q.keys.length:=by
 have h1:q.keys.length<=q.au.length:=DF (P:=λκ i=>(ab q.au i).key=κ) (λx y i hx hy=>hx.symm.trans hy) q.au.length (akT h) λκ hκ=>by
  obtain⟨a,ha,e⟩:=aM κ hκ;obtain⟨i,hi,rfl⟩:=fS ha;exact⟨i,hi,e⟩
 have h2:(q.au.map Answer.key).length<=q.keys.length:=DF (P:=λκ i=>ab q.keys i=κ) (λx y i hx hy=>hx.symm.trans hy) q.keys.length (List.pairwise_map.2 (h.sorted.imp λ{a b} hl e=>by
  unfold gZ at hl;rw[decide_eq_true_eq] at hl;omega)) λκ hκ=>by
  obtain⟨a,ha,rfl⟩:=List.mem_map.1 hκ;obtain⟨i,hi,e⟩:=fS (lR.1 (h.has a ha));exact⟨i,hi,e⟩
 rw[List.length_map] at h2;omega
def Xp {q:Call} {m:az} {t:Int} (aM:∀κ∈q.keys,∃a∈q.au,a.key=κ):∀d∈(cQ q m t).aL,d∈q.aL:=by
 unfold cQ;split
 .rename_i hc;simp only[Bool.and_eq_true] at hc;have hp:¬cv q m.key<0:=by
   have:=xg.2 (aM m.key (lR.1 hc.1.1.2));omega
  split
  .split<;>exactλd hd=>hd
  unfold iw;split
  .try rw[if_neg hp]
   split
   .unfold lu;split
    .dsimp only;split<;>exactλd hd=>(List.mem_filter.1 hd).1
    exactλd hd=>hd
   exactλd hd=>hd
  exactλd hd=>hd
 exactλd hd=>hd
def akU {q:Call} {m:az} {t:Int} {v:aA} (hg:0<=cv q m.key) (h4:m.kind=4) (hy:m.yes=true) (hv:m.an=[v]) (hk:v.key=m.key):v.aU∉(iw q m t).aL:=by
 have e0:ab m.an 0=v:=by rw[hv];rfl
 have ea:(cX m).aY=v:=by unfold cX;rw[hy,if_pos rfl,e0]
 unfold iw;rw[if_pos ⟨h4,λ_=>⟨by rw[hv];rfl,by rw[e0];exact hk⟩⟩,if_neg om,if_pos hy];unfold lu;rw[ea];split
 .dsimp only;split
  .intro hd;have:=(List.mem_filter.1 hd).2;simp at this
  intro hd;have:=(List.mem_filter.1 hd).2;simp at this
 assumption
def akV {x:ai} (h:Inv x) {j:Nat} (hj:j<4) {d:aw} (hu:∃u,be x (j/2) u/\u.aU=d) (U:cP (sv x j) d.key=1):∃v,eK (sv x j).an d=some v/\v.aU=d:=by
 obtain⟨u,hu,e⟩:=hu;have:=h.owner hj hu (by rw[show u.key=d.key from congrArg aw.key e];exact U);obtain⟨v,v1,_,v3⟩:=L3 ⟨u,this,e⟩;exact⟨v,v1,v3⟩
def akW {w:ai} (h:gE w) (hr:Rest w) {n:Nat} (hn:n<w.calls.length) (hw:bV (ab w.calls n)=true) (hF:nd (ab w.calls n)):bV (ab (fm w (ab w.calls n).aj.toNat).calls n)=false:=by
 have hg:=h.calm.inv.aN.call hn;have bq:=pe h.calm.inv.aN (bh hn);obtain⟨hk,aM⟩:=hF hw;have U:=zJ h hr hn hw;have Eh:(bR w (ev 2 0 (ab w.calls n).aj)).calls=w.calls:=by rw[zI h hn hw]
 have Xq:∀x m r,Ask w n x->x.al=m::r->(nd (ab x.calls n)/\(bV (ab x.calls n)=true->∀d∈(ab x.calls n).aL,d∈(ab w.calls n).aL))->(nd (ab (cU x).calls n)/\(bV (ab (cU x).calls n)=true->∀d∈(ab (cU x).calls n).aL,d∈(ab w.calls n).aL)):=by
  intro x m r hx dD hE;refine⟨Xm dD hE.1,?_⟩;rcases xJ dD with e|⟨k,hk,ox,e⟩
  .rw[e];exact hE.2
  rw[e,fC hk];split
  .rename_i e2;subst e2;exactλ_ d hd=>hE.2 ox d (Xp (hE.1 ox).2 d hd)
  exact hE.2
 have lT:=pg (R:=λx=>Ask w n x/\(nd (ab x.calls n)/\(bV (ab x.calls n)=true->∀d∈(ab x.calls n).aL,d∈(ab w.calls n).aL))) (λx m r hx dD=>⟨hx.1.pop dD,Xq x m r hx.1 dD hx.2⟩) 1000 ⟨U,by rw[Eh];exact⟨hF,λ_ d hd=>hd⟩⟩;have akX:fm w (ab w.calls n).aj.toNat=dm 1000 (bR w (ev 2 0 (ab w.calls n).aj)):=by
  show dm 1000 (bR w (ev 2 0 (((ab w.calls n).aj.toNat:Nat):Int)))=_;rw[bq.2]
 rw[<-akX] at lT;cases pk:bV (ab (fm w (ab w.calls n).aj.toNat).calls n) with
 |false=>rfl
 |true=>
  exfalso
  obtain⟨hA,Xr,hN⟩:=lT
  have hlen:=Xo (hA.calm.inv.aN.call hA.len) (Xr pk).2
  have aW:=hA.calm.more.V6 _ (bh hA.len) pk (Xr pk).1 hlen
  obtain⟨d,hd⟩:=List.exists_mem_of_ne_nil _ aW
  have xE:=hN pk d hd
  have key:bV (ab (fm w (ab w.calls n).aj.toNat).calls n)=true->d∉(ab (fm w (ab w.calls n).aj.toNat).calls n).aL:=by
   have sf:kO d=true:=Dg hg.aL d xE;have akY:du d.key=true:=by unfold kO at sf;rw[Bool.and_eq_true] at sf;exact sf.1
   have xF:dw d.ar=false:=by unfold kO at sf;rw[Bool.and_eq_true] at sf;exact Sc sf.2
   have sQ:d.key∈(ab w.calls n).keys:=by
    obtain⟨a,ha,e,_⟩:=(GR hg.sorted).1 (hg.xA d xE);rw[<-e];exact lR.1 (hg.has a ha)
   refine NG h hr hn hw (m0:={cn with kind:=3,key:=d.key,ar:=d.ar}) ?_ akY
    (D:=λx=>bV (ab x.calls n)=true->d∉(ab x.calls n).aL) (A:=λy=>y.kind=4/\y.call=(ab w.calls n).num/\y.key=d.key/\y.yes=true/\∃v,y.an=[v]/\v.aU=d)
    (E:=λx=>nd (ab x.calls n)/\(bV (ab x.calls n)=true->∀d∈(ab x.calls n).aL,d∈(ab w.calls n).aL)) (λx hx=>by rw[hx];exact⟨hF,λ_ d hd=>hd⟩) Xq ?_ (λx h1 h2=>by rw[h1] at h2;cases h2) ?_ ?_
   .unfold asks;rw[if_neg hk];exact List.mem_append_right _ (List.mem_map.2 ⟨d,xE,rfl⟩)
   .intro x m r hx hE dD hD;rcases xJ dD with e|⟨k,hk,ox,e⟩
    .rw[e];exact hD
    rw[e,fC hk];split
    .rename_i e2;subst e2;exactλ_ vJ=>hD ox (Xp (hE.1 ox).2 d vJ)
    exact hD
   .rintro x j hj hx hE hD bj NI m rfl hm g;have hD2:bV (ab x.calls n)=true/\d∈(ab x.calls n).aL:=by
     refine Classical.byContradiction λhc=>hD λh1 h2=>hc ⟨h1,h2⟩
    obtain⟨Xs,hxd⟩:=hD2;have np:=Xo (hx.calm.inv.aN.call hx.len) (hE.1 Xs).2;obtain⟨C,_,_,c3⟩:=(hx.calm.inv.au _ (bh hx.len)).full (hE.1 Xs).1 np;obtain⟨_,u,hu,e,_⟩:=c3 d hxd;rw[hx.same.1,<-NI] at hu;obtain⟨v,v1,v2⟩:=akV hx.calm.inv hj ⟨u,hu,e⟩ bj;have Ee:=Xn hx.calm hj hm rfl rfl (by show 10<=10+_/\10+_<=11;omega) hg.num.1 bj;have ak1:=Ee.trans (if_neg (by show¬dw d.ar=true;rw[xF];decide));have v1':eK (sv x j).an ⟨d.key,d.ar⟩=some v:=v1;refine⟨lS (sv x j) {{cn with kind:=3,key:=d.key,ar:=d.ar} with aT:=10+(ab w.calls n).aj,to:=(j:Int),call:=(ab w.calls n).num} (some v),?_,rfl,rfl,rfl,rfl,rfl,v,rfl,v2⟩;rw[ak1];show(match eK (sv x j).an ⟨d.key,d.ar⟩ with|some v=>[lS (sv x j) _ (some v)]|none=>[])=_;rw[v1']
   rintro x m r hx hE dD NJ eO ⟨a1,a2,a3,a4,v,a5,a6⟩ hm ak3 _;have o8:=(hE.1 NJ).1;have zs:=xg.2 ((hE.1 NJ).2 d.key (by rw[hx.same.2.2.2.1];exact sQ));rw[ak3,fC hx.len,if_pos rfl,ND hx.calm.inv hx.len NJ hm eO (by rw[hx.same.2.1];exact a2) (by rw[hx.same.2.2.2.1,a3];exact lR.2 sQ),if_neg o8];have:=akU (q:=ab x.calls n) (t:=x.time+1) (by rw[a3];exact zs) a1 a4 a5 (by rw[a3];exact congrArg aw.key a6);rwa[a6] at this
  exact key pk hd
def Xt {w:ai} (h:w.al=[]):∀n,dm n w=w
 |0=>rfl
 |n+1=>by unfold dm;rw[h];rfl
def NK (w:ai) {i:Nat} (hi:i<4):bR w (ev 7 (i:Int) 0)=if(sv w i).up then w else{w with time:=w.time+1,aC:=w.aC.set i (l8 (sv w i))}:=by
 have e1:cM (i:Int)=true:=jy.2 om;have e2:(ev 7 (i:Int) 0).at_.toNat=i:=by show((i:Int)).toNat=i;omega
 have hk:(ev 7 (i:Int) 0).kind=7:=rfl;have hd:cD w (ev 7 (i:Int) 0)=({w with time:=w.time+1,aC:=w.aC.set i (l8 (sv w i))},!(sv w i).up):=by
  unfold cD;dsimp only;rw[if_neg om,if_neg om,if_pos (show(aJ (ev 7 (i:Int) 0).kind 6 9&&cM (ev 7 (i:Int) 0).at_)=true by
   show(aJ 7 6 9&&cM (i:Int))=true;rw[e1];decide)]
  unfold fG;dsimp only;rw[if_pos hk,e2];rfl
 unfold bR;rw[hd];dsimp only;cases(sv w i).up<;>rfl
def HE {w:ai} (h:Inv w) {i:Nat} (hi:i<4):(sv (bR w (ev 7 (i:Int) 0)) i).up=true/\∀j,(sv w j).up=true->(sv (bR w (ev 7 (i:Int) 0)) j).up=true:=by
 rw[NK w hi];split
 .exact⟨‹_›,λ_ h=>h⟩
 have e:∀j,sv {w with time:=w.time+1,aC:=w.aC.set i (l8 (sv w i))} j=if j=i then l8 (sv w i) else sv w j:=λj=>fC (by rw[h.aN.aC];exact hi)
 refine⟨by rw[e,if_pos rfl];rfl,λj hj=>?_⟩;rw[e];split
 .rfl
 exact hj
def HF (w:ai):iJ w=bR (bR (bR (bR w (ev 7 ((0:Nat):Int) 0)) (ev 7 ((1:Nat):Int) 0)) (ev 7 ((2:Nat):Int) 0)) (ev 7 ((3:Nat):Int) 0):=by
 unfold iJ;rw[show List.range 4=[0,1,2,3] from rfl];simp only[List.foldl_cons,List.foldl_nil]
def Xu {w:ai} (h:Inv w) (hm:iH w):Calm (iJ w):=by
 rw[HF];have i1:=q9 h (ev 7 ((0:Nat):Int) 0);have i2:=q9 i1 (ev 7 ((1:Nat):Int) 0);have i3:=q9 i2 (ev 7 ((2:Nat):Int) 0);have i4:=q9 i3 (ev 7 ((3:Nat):Int) 0);have u0:=HE h (i:=0) aP;have u1:=HE i1 (i:=1) aP;have u2:=HE i2 (i:=2) aP;have u3:=HE i3 (i:=3) aP;refine⟨i4,(((hm.lift h _).lift i1 _).lift i2 _).lift i3 _,λi hi=>?_⟩;rcases(by omega:i=0\/i=1\/i=2\/i=3) with rfl|rfl|rfl|rfl
 .exact u3.2 _ (u2.2 _ (u1.2 _ u0.1))
 .exact u3.2 _ (u2.2 _ u1.1)
 .exact u3.2 _ u2.1
 exact u3.1
def ak4 {w:ai} (h:Calm w):iJ w=w:=by
 rw[HF];have e:∀i,i<4->bR w (ev 7 ((i:Nat):Int) 0)=w:=λi hi=>by rw[NK w hi,if_pos (h.up i hi)]
 rw[e 0 aP,e 1 aP,e 2 aP,e 3 aP]
def xK (w:ai):ai:=fm (fm w 0) 1
def HG (w:ai):eD w=xK (jb (dm 1000 (iJ w))):=by
 unfold eD xK;rw[aku,show List.range 2=[0,1] from rfl];simp only[List.foldl_cons,List.foldl_nil]
def HH {w:ai} (h:gE w):eD w=xK (jb w):=by rw[HG,ak4 h.calm,Xt h.al]
def ak5 (w:ai) (i:Nat):(bR w (ev 8 (i:Int) 0)).calls=w.calls:=by
 unfold bR;split
 .have hk:(ev 8 (i:Int) 0).kind=8:=rfl;unfold cD;dsimp only;rw[if_neg om,if_neg om];split
  .unfold fG;dsimp only;repeat' split
   all_goals rfl
  rfl
 rfl
def HI (w:ai) {i:Nat} (hi:i<4):(bR w (ev 7 (i:Int) 0)).calls=w.calls:=by
 rw[NK w hi];split<;>rfl
def ak6 (w:ai) (c:Int):(bR w (ev 2 0 c)).calls=w.calls:=by
 unfold bR;split
 .have hk:(ev 2 0 c).kind=2:=rfl;unfold cD;dsimp only;rw[if_pos om];unfold g7;dsimp only;rw[if_neg om];split
  .rfl
  rw[if_neg om]
 rfl
def BD {w:ai} (h:gE w) {c:Nat} (hc:∀n,n<w.calls.length->(ab w.calls n).aj=(c:Int)->bV (ab w.calls n)=false):fm w c=w:=by
 have hn:cq w.calls (c:Int)<0:=by
  rcases Int.lt_or_le (cq w.calls (c:Int)) 0 with bz|hle
  .exact bz
  obtain⟨a1,a2,a3⟩:=na hle;rw[hc _ a1 a2] at a3;cases a3
 have e:bR w (ev 2 0 (c:Int))=w:=by
  have hk:(ev 2 0 (c:Int)).kind=2:=rfl;have hd:(cD w (ev 2 0 (c:Int))).2=false:=by
   unfold cD;dsimp only;rw[if_pos om];unfold g7;dsimp only;rw[if_neg om,if_pos (show cq w.calls (ev 2 0 (c:Int)).aj<0 from hn)]
  unfold bR;rw[hd];rfl
 unfold fm;rw[e,Xt h.al]
def Ei {w:ai} (h:gE w) (hr:Rest w) (c:Nat):gE (fm w c)/\Rest (fm w c):=by
 by_cases hc:∃n,n<w.calls.length/\(ab w.calls n).aj=(c:Int)/\bV (ab w.calls n)=true
 .obtain⟨n,hn,e,hw⟩:=hc;have U:=zJ h hr hn hw;rw[e] at U;exact⟨BA U.calm,U.rest.qd U.calm 1000⟩
 rw[BD h λn hn e=>by
  cases hw:bV (ab w.calls n) with
  |false=>rfl
  |true=>exact absurd ⟨n,hn,e,hw⟩ hc]
 exact⟨h,hr⟩
def Xv {w:ai} (h:gE w) (hr:Rest w) (hp:y7 w) (c:Nat) (hF:∀n,n<w.calls.length->nd (ab w.calls n)):y7 (fm w c):=by
 by_cases hc:∃n,n<w.calls.length/\(ab w.calls n).aj=(c:Int)/\bV (ab w.calls n)=true
 .obtain⟨n,hn,e,hw⟩:=hc;have U:=zJ h hr hn hw;have hl:=zI h hn hw;have G4:=(hF n hn hw).1;have ph:Phase w 2 (bR w (ev 2 0 (ab w.calls n).aj)):=by
   refine⟨U.calm,U.rest,?_,U.aD,λj _ d hd=>by rw[hl] at hd;exact hd⟩;rw[hl];show∀m∈gD (ab w.calls n),2<=m.kind;intro m hm;unfold gD at hm;rw[if_pos hw] at hm;obtain⟨ws,h1,h2⟩:=List.mem_flatten.1 hm;obtain⟨x,hx,rfl⟩:=List.mem_map.1 h1;have o8:x.kind=3:=by
    unfold asks at hx;rw[if_neg G4] at hx;rcases List.mem_append.1 hx with hx|hx
    .obtain⟨_,_,rfl⟩:=List.mem_map.1 hx;rfl
    obtain⟨_,_,rfl⟩:=List.mem_map.1 hx;rfl
   unfold jq at h2;rcases List.mem_cons.1 h2 with rfl|h2
   .show 2<=x.kind;omega
   obtain rfl:=List.mem_singleton.1 h2;show 2<=x.kind;omega
  rw[e] at ph;have hb:Phase w 2 (fm w c):=ph.qd aP 1000;exactλi hi=>List.eq_nil_iff_forall_not_mem.2 λd hd=>by
   have:=hb.aE i hi d hd;rw[hp i hi] at this;simp at this
 rw[BD h λn hn e=>by
  cases hw:bV (ab w.calls n) with
  |false=>rfl
  |true=>exact absurd ⟨n,hn,e,hw⟩ hc]
 exact hp
def NL {w:ai} (h:Inv w) {σ:Nat} (hσ:σ<2) {v:aA} (hv:be w σ v):equalIn (cg w (σ:Int)) v=true:=by
 have hp:=nC.2 ⟨v,(kH h hσ).2 hv,rfl⟩;obtain⟨h1,h2⟩:=l7 hp;unfold equalIn jY;rw[decide_eq_true hp,Bool.true_and,decide_eq_true_eq];exact h.uniq _ _ _ _ ((kH h hσ).1 (bh h1)) hv h2
def Xw {w:ai} (h:Inv w) {σ:Nat} (hσ:σ<2):sN w (σ:Int)=true:=by
 unfold sN;rw[acW hσ];simp only[Bool.and_eq_true];refine⟨⟨⟨⟨gF.2 λk hk=>?_,gF.2 λk hk=>?_⟩,gF.2 λi hi=>?_⟩,Kj.2 λd hd=>?_⟩,?_⟩
 .have hv:=(kH h hσ).1 (bh hk);unfold qV;simp only[Bool.and_eq_true];refine⟨⟨gF.2 λj hj=>?_,Kj.2 λd hd=>?_⟩,?_⟩
  .have:=aj9 h hσ hj hk;cases U:C2 (ab (cg w (σ:Int)) j) (ab (cg w (σ:Int)) k)
   .rfl
   exfalso;unfold C2 at U;simp only[Bool.and_eq_true,beq_iff_eq] at U;exact this ⟨U.1.symm,U.2.symm⟩
  .obtain⟨u,e,hu⟩:=Bt h hv hd;exact⟨u,(kH h hσ).2 hu,e⟩
  split
  .rename_i hp;obtain⟨x,hx,e⟩:=nC.1 hp;have:=h.uniq _ _ _ _ ((kH h om).1 hx) hv e;rw[this] at hx;exact NL h om ((kH h om).1 hx)
  rename_i hp;obtain⟨e,hh⟩:=h.home σ _ hv;have hl:=hh.lt;rw[beq_iff_eq,e];have hm:=h.made σ _ hv;obtain⟨q,hq,c1,_⟩:=hm;have hc:=pe h.aN hq;rw[c1] at hc;by_cases U:(ab (cg w (σ:Int)) k).aj.toNat=σ
  .omega
  exfalso;apply hp;have e2:(ab (cg w (σ:Int)) k).aj.toNat=1-σ:=by omega
  rw[e2] at hh;exact nC.2 ⟨_,(kH h om).2 hh,rfl⟩
 .have h2:(2*(σ:Int)).toNat=2*σ:=by omega
  have h3:(2*(σ:Int)+1).toNat=2*σ+1:=by omega
  unfold cT at hk⊢;rw[h2] at hk⊢;rw[h3];have hl:(sv w (2*σ)).aD.length=3:=(h.cT om).aD;have:=h.fits (2*σ) om k (by unfold sv at hl;omega);rwa[show bP (2*σ)=2*σ+1 by unfold bP;rw[if_pos om]] at this
 .unfold w6;by_cases hc:(ab w.calls i).aj=(σ:Int)
  .by_cases hk:(ab w.calls i).kind=1
   .by_cases he:(ab w.calls i).end_=0
    .simp[he]
    obtain⟨v,a1,_,a3,a4,a5⟩:=aj8 h (bh hi) hk he;rw[hc] at a1;unfold eK at a1;split at a1
    .rename_i hp;cases a1;rw[decide_eq_true hp];simp[a3,a4,a5]
    cases a1
   simp[hk]
  simp[hc]
 .obtain⟨u,hu,e,_⟩:=h.seen σ hσ d (by simpa using hd);exact⟨u,(kH h hσ).2 hu,e⟩
 rw[Bool.not_eq_true',FQ];intro v hv;unfold Gd;rw[Bool.not_eq_false'];have h2:(2*(σ:Int)).toNat=2*σ:=by omega
 have h3:(2*(σ:Int)+1).toNat=2*σ+1:=by omega
 unfold cT at hv;rw[h2,h3] at hv;rcases List.mem_append.1 hv with hv|hv
 .have:=h.lU (2*σ) om v hv;rw[show 2*σ/2=σ by omega] at this;exact NL h om this
 have:=h.lU (2*σ+1) om v hv;rw[show(2*σ+1)/2=σ by omega] at this;exact NL h om this
def Xx {w:ai} (h:Inv w) (ht:w.time<=99999):zh w=true:=by
 unfold zh;rw[fD.2 ⟨h.aN,ht⟩];have h0:=Xw h (σ:=0) om;have h1:=Xw h (σ:=1) om;rw[show((0:Nat):Int)=0 from rfl] at h0;rw[show((1:Nat):Int)=1 from rfl] at h1;rw[h0,h1];rfl
def Xy {w:ai} (h:Inv w) (ht:w.time<=99999):qZ w=true:=by
 unfold qZ;rw[fD.2 ⟨h.aN,ht⟩,Bool.true_and,gF];intro i hi;have hg:=h.aN.call hi;have hm:=bh hi;unfold qY sw;rw[h.kG i hi,decide_eq_true rfl];have:(decide (0<(ab w.calls i).end_)&&!zd (ab w.calls i))=false:=by
  by_cases he:0<(ab w.calls i).end_
  .rw[decide_eq_true he,Bool.true_and,Bool.not_eq_false',<-agr hg.ctx hg.aN];unfold Ks;rw[tY (p:=λa=>!CY (ab w.calls i) a)];intro a ha;unfold CY;rw[(h.au _ hm).ctx a ha,Hg hg.aN];rcases Kw (l:=(ab w.calls i).au) (key:=a.key) with e|⟨b,hb,e⟩
   .rw[e,DL (hg.aN a ha)];rfl
   rw[<-e,aj7 h hm om ha hb];rfl
  rw[decide_eq_false he];rfl
 rw[this];rfl
def HJ {w:ai} (h:Inv w) (e:Ev) {σ:Nat} {v:aA} (hv:be w σ v):be (bR w e) σ v:=by
 unfold bR;split
 .exact WK h e hv
 exact hv
def mg.mono {w x:ai} {a b:Nat} (h:mg w x a) (FF:a<=b):mg w x b:=⟨h.inv,h.more,h.eC,by have:=h.time;omega⟩
def we {w:ai} (h:Inv w) (hm:iH w) (e:Ev):mg w (bR w e) 1:=⟨q9 h e,hm.lift h e,λ_ _=>HJ h e,nc w e⟩
def NM {w:ai} (h:Inv w) (hm:iH w):mg w (dm 1000 w) 120:=by
 have hb:=pg (R:=λx=>Inv x/\iH x/\∀σ v,be w σ v->be x σ v) (λx _ _ hx _=>⟨q9 hx.1 _,hx.2.1.lift hx.1 _,λσ v hv=>HJ hx.1 _ (hx.2.2 σ v hv)⟩) 1000 ⟨h,hm,λ_ _ hv=>hv⟩;have hw:=Ky w.al;have hl:=h.aN.al;have:=(Hy 1000 h om).2;exact⟨hb.1,hb.2.1,hb.2.2,by omega⟩
def ie.less {w:ai} {r s:Int} (h:ie w r) (U:s<=r):ie w s:=⟨h.still,h.rest,h.uE,λi hi v hv=>by have:=h.dz i hi v hv;omega⟩
def Xz:∀{l:List Ev} {w:ai},cK w=true->(runN w l).time<=w.time+l.length
 |[],w,_=>by show w.time<=_;omega
 |e::l,w,h=>by
  have h1:=Xz (l:=l) (Ht h e);have h2:(bW w e).1.time<=w.time+1:=by
   rw[Hv h];unfold gv;split
   .rw[Bn];exact Int.le_refl _
   show w.time<=_;omega
  show(runN (bW w e).1 l).time<=_;rw[List.length_cons];omega
def NN (l:List Ev):(cx l).time<=2000:=by
 unfold cx;split
 .decide
 have:=Xz (l:=l) (w:=dT) Bf;have e:dT.time=0:=rfl;show(runN dT l).time<=2000;omega
def ak7 {w:ai} (h:Inv w) {σ:Nat} (hσ:σ<2):ct (cg w (σ:Int))=true:=vw.2 ⟨by
 have:=vZ h (l:=(cg w (σ:Int)).map aA.aU) (List.pairwise_map.2 (Mh (zB h hσ))) (λd hd=>by
  obtain⟨v,hv,rfl⟩:=List.mem_map.1 hd;exact⟨σ,v,(kH h hσ).1 hv,rfl⟩)
 rw[List.length_map] at this;omega,λv hv=>h.Hu ((kH h hσ).1 hv),zB h hσ⟩
def ak8 (l:List aA) (key:Int) (hc:ct l=true):
 Fn prog 29 [bU l,AV.int key] (AV.dG [((dY l key).getD default).av,AV.bool (dY l key).isSome]):=by
 refine Fn.go 15 func29 ntmps29 (λW I a U=>?_);refine sr<|U.alloc rfl bL ee λb4 I a w U=>?_;refine aG λI a w U=>?_;refine U.o (.cl (Bc l)) λU=>?_;refine aB λI a w U=>?_;refine U.cd (λae=>?_) λae=>?_
 .exfalso;rw[hc] at ae;cases ae;skip
 refine aG λI a w U=>?_;refine U.o (.cl (MG l key (λv hv=>by have:=iV (iW (fw hc v hv)).2.2;omega))) λU=>?_;refine aX λI a w U=>?_;refine U.ret rfl (.cons (.sx 0) (.cons (.t rfl) aV.nil)) ?_;rfl
def NO {x:ai} (ao:cK x=true) (h:mI x=true):Fn prog 16 [x.av] (AV.bool true):=h▸WY x (fD.1 ao).1.Fit (fD.1 ao).1.small.2.2.1.1
def XA {w:ai} {k:Nat} (h:bV (ab w.calls k)=false):((nJ w k:Nat):Int)=((nJ w (k+1):Nat):Int):=by
 show _=((nJ w k+if bV (ab w.calls k)=true then 1 else 0:Nat):Int);rw[if_neg (by rw[h];simp)];rfl
def XB {w:ai} (h:kD w):∀{k},k<=w.calls.length->nJ w k=0
 |0,_=>rfl
 |k+1,hk=>by
  show nJ w k+(if bV (ab w.calls k)=true then 1 else 0)=0;rw[XB h om,if_neg (by rw[h k om];simp)]
def Ej:∀(n:Nat) {w:ai},cK w=true->cK (bl n w)=true
 |0,_,h=>h
 |n+1,w,h=>by
  unfold bl;split
  .have ht:=Nw w;exact Ej n (fD.2 ⟨WW (fD.1 h).1 om,by omega⟩)
  exact h
def XC (x:ai) (hl:x.calls.length<=1048576):
 Fn prog 17 [x.av] (AV.int (nJ x x.calls.length:Nat)):=by
 refine Fn.go 31 func17 ntmps17 (λW I a U=>?_);refine aX λI a w U=>?_;refine St.lo (σ:=Nat) (run 27 3 []) ⟨λk=>[(4,AV.int k),(3,AV.int (nJ x k:Nat))],λk=>[],λk=>k<=x.calls.length⟩ (λk=>x.calls.length-k) 0 U ?aI ?bF;case aI=>exact Nat.zero_le _
 rintro k I a w ao U;have hk:k<=x.calls.length:=ao;refine cF λI a w U=>?_;refine cz (λae=>?_) λae=>?_
 .refine aat λI a w U=>?_;refine U.cd (λah=>?_) λah=>?_
  .change bV (ab x.calls k)=true at ah;have lP:=Ue x k;refine iM λI a w U=>?_;refine U.again (k+1) ?hO ?hP dR ?hZ (by repeat(first|exact Env.le_rfl|refine Env.iy rfl ?_));case hO=>omega
   case hP=>show k+1<=_;omega
   case hZ=>exact(Env.dA rfl dR (Env.dA rfl (by first|exact congrArg AV.int (Ud ah)|exact congrArg AV.int (XA ah)) Env.le_nil))
  change bV (ab x.calls k)=false at ah;refine aR λI a w U=>?_;refine U.again (k+1) ?mV ?mW dR ?mX (by repeat(first|exact Env.le_rfl|refine Env.iy rfl ?_));case mV=>omega
  case mW=>show k+1<=_;omega
  case mX=>exact(Env.dA rfl dR (Env.dA rfl (by first|exact congrArg AV.int (Ud ah)|exact congrArg AV.int (XA ah)) Env.le_nil))
 refine zt ?_;refine aF λI a w U=>?_;obtain rfl:k=x.calls.length:=by omega
 refine U.rt ?_;rfl
def XD {x:ai} (ao:cK x=true) (h:kD x):Fn prog 17 [x.av] (AV.int 0):=by
 have:=XC x (by have:=(fD.1 ao).1.small.2.2.1.1;omega);rwa[XB h (Nat.le_refl _)] at this
def zK (w:ai) (c:Nat):ai:=(bW w (ev 2 0 (c:Int))).1
def Ek (w:ai) (c:Nat):ai:=(bW (zK w c) (LD ((zK w c).al.length-1))).1
def ld (w:ai):Nat->ai
 |0=>w
 |k+1=>Ek (ld w k) (k%2)
structure BE (w x:ai) (n:Nat):Prop where
 inv:Inv x
 more:iH x
 time:x.time<=w.time+n
def BE.ok {w x:ai} {n:Nat} (h:BE w x n) (ht:w.time+n<=99999):cK x=true:=fD.2 ⟨h.inv.aN,by have:=h.time;omega⟩
def ak9 (w:ai) {n c:Nat} (hc:c<2):Ek (ld w (2*n+c)) c=ld w (2*n+(c+1)):=by
 show _=Ek (ld w (2*n+c)) ((2*n+c)%2);rw[show(2*n+c)%2=c by omega]
def ala {x:ai} (h:Inv x) {V:aA->Prop} (vN:∀σ v,be x σ v->V v) (El:∀v,V v->∃τ,be x τ v) {q:Call} (hb:∀a∈q.au,sC V a) (hg:∀a∈q.au,dL a=true):ky q=[]:=
 List.eq_nil_iff_forall_not_mem.2 λd hd=>by
  obtain⟨a,ha,e,hl⟩:=Kt hd;rw[e] at hl;dsimp only at hl;rw[Hg hg] at hl;rcases Kw (l:=q.au) (key:=a.key) with e0|⟨b,ae,e1⟩
  .rw[e0,DL (hg a ha)] at hl;cases hl
  rcases CZ (l:=b.aY.aQ) (key:=a.key) with e2|e2
  .rw[<-e1,e2,DL (hg a ha)] at hl;cases hl
  rw[<-e1] at hl;cases hy:b.yes with
  |false=>
   rw[xb (hg b ae) hy] at e2
   simp[sE] at e2
  |true=>
   obtain⟨τ,hτ⟩:=El _ ((hb b ae).top hy).1
   obtain⟨u,u1,u2⟩:=Bt h hτ e2
   have hk:u.key=a.key:=congrArg aw.key u1
   have U:u.ar=bI b.aY.aQ a.key:=congrArg aw.ar u1
   cases XE:a.yes with
   |true=>
    have:=((hb a ha).top XE).2.2 u (vN _ _ u2) hk
    rw[U,hl] at this;cases this
   |false=>exact(hb a ha).no XE u (vN _ _ u2) hk
def alb {x:ai} (h:Inv x) {V:aA->Prop} (vN:∀σ v,be x σ v->V v) (El:∀v,V v->∃τ,be x τ v) {q:Call} {m:az} {T t:Int} (hq:dJ q t) (hm:m.kind=4->dw m.ar=true/\sC V (cX m)) (hb:∀a∈q.au,sC V a) (hn:q.aL=[]) (hk:q.kind≠1):
 (∀a∈(cQ q m T).au,sC V a)/\(cQ q m T).aL=[]:=by
 unfold cQ;split
 .rename_i hc;simp only[Bool.and_eq_true] at hc;have hw:=hc.1.1.1.1.1;(try rw[if_neg hk]);unfold iw;split
  .rename_i h4;split
   .split
    .have wx:∀a∈dj q.au (cX m),sC V a:=λa ha=>by
      rcases oW.1 ha with rfl|ha
      .exact(hm h4.1).2
      exact hb a ha
     have hg':∀a∈dj q.au (cX m),dL a=true:=λa ha=>by
      rcases oW.1 ha with rfl|ha
      .exact Dh (q:=q) hw h4.2
      exact hq.aN a ha
     unfold mb;dsimp only;split
     .exact⟨wx,hn⟩
     have e:ky {q with au:=dj q.au (cX m)}=[]:=ala h vN El wx hg';rw[e,hn];unfold kV;split
     .exact⟨wx,rfl⟩
     exact⟨wx,rfl⟩
    exact⟨hb,hn⟩
   split
   .unfold lu;split
    .rename_i _ _ px;rw[hn] at px;simp at px
    exact⟨hb,hn⟩
   exact⟨hb,hn⟩
  exact⟨hb,hn⟩
 exact⟨hb,hn⟩
structure jR (V:aA->Prop) (n:Nat) (x:ai):Prop where
 calm:Calm x
 rest:Rest x
 len:n<x.calls.length
 sub:∀σ v,be x σ v->V v
 sup:∀v,V v->be x (ab x.calls n).aj.toNat v
 kinds:∀m∈x.al,3<=m.kind
 ask:∀m∈x.al,m.kind=3->dw m.ar=true/\m.to/2=(ab x.calls n).aj
 BF:∀m∈x.al,m.kind=4->dw m.ar=true/\sC V (cX m)
 read:(ab x.calls n).kind≠1
 over:(ab x.calls n).over=false
 au:∀a∈(ab x.calls n).au,sC V a
 aL:(ab x.calls n).aL=[]
 others:∀k,k<x.calls.length->k≠n->bV (ab x.calls k)=false
def ald {V:aA->Prop} {n:Nat} {x:ai} (h:jR V n x) {m:az} (hm:m∈x.al) (hk:m.kind=3) {y:az} (hy:y∈(cN (sv x m.to.toNat) m).2):dw y.ar=true/\sC V (cX y):=by
 obtain⟨U,q4⟩:=h.ask m hm hk;have hI:=h.calm.inv;have bq:=pe hI.aN (bh h.len);have hj:m.to.toNat<4:=by omega
 unfold cN at hy;split at hy
 .unfold dh at hy;rw[if_neg om,if_pos hk] at hy;change y∈gR _ _ at hy;unfold gR at hy;split at hy
  .rename_i ho;simp only[Bool.and_eq_true,decide_eq_true_eq] at ho;(try rw[if_pos U] at hy);rw[List.mem_singleton] at hy;subst hy;have bj:cP (sv x m.to.toNat) m.key=1:=by
    have:=ho.2;unfold fE at this;simp only[Bool.and_eq_true,beq_iff_eq] at this;exact this.2
   refine⟨U,?_⟩;have own:∀u,V u->u.key=m.key->u∈(sv x m.to.toNat).an:=λu hu e=>hI.owner hj (by rw[show m.to.toNat/2=(ab x.calls n).aj.toNat by omega];exact h.sup u hu) (by rw[e];exact bj);cases e:dY (sv x m.to.toNat).an m.key with
   |none=>
    refine⟨λh1=>?_,λ_ u hu nN=>Lx e (own u hu nN) nN⟩
    have h2:(none:Option aA).isSome=true:=h1
    cases h2
   |some v=>
    have hv:=uj e
    have e2:cX (lS (sv x m.to.toNat) m (some v))=⟨m.key,true,v⟩:=rfl
    rw[e2]
    exact⟨λ_=>⟨h.sub _ v ⟨_,hj,rfl,hv.1⟩,hv.2,λu hu nN=>GM (pU (hI.cT hj).an) e (own u hu nN) nN⟩,λh1=>by cases h1⟩
  simp at hy
 simp at hy
def jR.pop {V:aA->Prop} {n:Nat} {x:ai} (h:jR V n x) {m:az} {r:List az} (hx:x.al=m::r):jR V n (cU x):=by
 have hI:=h.calm.inv;have dr:m∈x.al:=by rw[hx];simp
 have uw:∀y∈(cU x).al,y∈x.al\/y.kind=m.kind+1/\y∈(cN (sv x m.to.toNat) m).2:=by
  obtain⟨l,l1,_,l3⟩:=Bz hI.aN.al hx;intro y hy;rw[l1] at hy;rcases List.mem_append.1 hy with hy|hy
  .exact .inl (by rw[hx];simp[hy])
  cases hc:aJ m.to 10 11 with
  |false=>
   rw[l3 hc] at hy
   exact .inr ⟨MO _ _ y hy,hy⟩
  |true=>
   exfalso
   have e:(cU x).al=r:=by rw[xI hx,if_pos hc,Hx]
   rw[e] at l1
   have:=congrArg List.length l1
   rw[List.length_append] at this
   have:l=[]:=List.eq_nil_of_length_eq_zero om
   subst this
   simp at hy
 have Ho:∀v,V v->∃τ,be x τ v:=λv hv=>⟨_,h.sup v hv⟩;have Eg:(∀k,k<x.calls.length->k≠n->ab (cU x).calls k=ab x.calls k)/\(cU x).calls.length=x.calls.length/\(ab (cU x).calls n=ab x.calls n\/ab (cU x).calls n=cQ (ab x.calls n) m (x.time+1)):=by
  rcases xJ hx with e|⟨k,hk,hw,e⟩
  .rw[e];exact⟨λ_ _ _=>rfl,rfl,.inl rfl⟩
  have ek:k=n:=by
   by_cases ek:k=n
   .exact ek
   have:=h.others k hk ek;rw[hw] at this;cases this
  subst ek;rw[e];exact⟨λj hj aW=>by rw[fC hk,if_neg aW],by simp,.inr (by rw[fC hk,if_pos rfl])⟩
 obtain⟨c1,c2,c3⟩:=Eg;have hb:=alb (T:=x.time+1) hI h.sub Ho (hI.aN.call h.len) (h.BF m dr) h.au h.aL h.read;have lg:=Hc (ab x.calls n) m (x.time+1);have bq:(ab (cU x).calls n).aj=(ab x.calls n).aj:=by
  rcases c3 with e|e
  .rw[e]
  rw[e];exact lg.1
 exact{
  calm:=h.calm.pop hx
  rest:=λi hi k hk=>by rw[BB h.calm h.rest hx hi];exact h.rest i hi k hk
  len:=by rw[c2];exact h.len
  sub:=λσ v hv=>by
   have hd:be (cD x (ev 4 0 0)).1 σ v:=by
    have e:cU x=(cD x (ev 4 0 0)).1:=by unfold cU bR;rw[if_pos (Hq hx).1]
    rwa[<-e]
   rcases Hw hI (ev 4 0 0) hd with⟨τ,hτ⟩|⟨i,m',_,lX,_,hN⟩
   .exact h.sub τ v hτ
   have:=h.kinds m' lX;have:=hN.kind;omega
  sup:=λv hv=>by rw[bq];exact HJ hI _ (h.sup v hv)
  kinds:=λy hy=>by
   rcases uw y hy with h1|h1
   .exact h.kinds y h1
   have:=h.kinds m dr;omega
  ask:=λy hy hk=>by
   rw[bq];rcases uw y hy with h1|h1
   .exact h.ask y h1 hk
   have:=h.kinds m dr;omega
  BF:=λy hy hk=>by
   rcases uw y hy with h1|h1
   .exact h.BF y h1 hk
   exact ald h dr om h1.2
  read:=by rcases c3 with e|e<;>rw[e];exact h.read;rw[lg.2.2.2.2.2.2];exact h.read
  over:=by rcases c3 with e|e<;>rw[e];exact h.over;rw[lg.2.2.2.1];exact h.over
  au:=by rcases c3 with e|e<;>rw[e];exact h.au;exact hb.1
  aL:=by rcases c3 with e|e<;>rw[e];exact h.aL;exact hb.2
  others:=λk hk aW=>by rw[c1 k om aW];exact h.others k om aW}
def jR.qd {V:aA->Prop} {n:Nat} {x:ai} (h:jR V n x):jR V n (dm 1000 x)/\(dm 1000 x).al=[]:=by
 have g:=pg (R:=jR V n) (λ_ _ _ h hx=>h.pop hx) 1000 h;exact⟨g,(BA h.calm).al⟩
def jR.j3 {V:aA->Prop} {n:Nat} {x:ai} (h:jR V n x) (hr:x.al=[]) {i:Nat} (hi:i<4):jR V n (eP x i)/\(eP x i).al=[]:=by
 have hl:=wc h.calm hr hi;have hc:=zG h.calm hi hr;have hk:∀m∈(bR x (ev 8 (i:Int) 0)).al,5<=m.kind:=by rw[hl];exact MP
 have g:jR V n (bR x (ev 8 (i:Int) 0)):={
  calm:=hc
  rest:=λj hj k hk=>by rw[hl];exact h.rest j hj k hk
  len:=by rw[hl];exact h.len
  sub:=by rw[hl];exact h.sub
  sup:=by rw[hl];exact h.sup
  kinds:=λm hm=>by have:=hk m hm;omega
  ask:=λm hm e=>by have:=hk m hm;omega
  BF:=λm hm e=>by have:=hk m hm;omega
  read:=by rw[hl];exact h.read
  over:=by rw[hl];exact h.over
  au:=by rw[hl];exact h.au
  aL:=by rw[hl];exact h.aL
  others:=by rw[hl];exact h.others}
 exact g.qd
def jR.asked {V:aA->Prop} {n:Nat} {x:ai} (h:jR V n x) (hr:x.al=[]) (c:Nat):jR V n (fm x c)/\(fm x c).al=[]:=by
 have U:gE x:=⟨h.calm,hr⟩;by_cases hc:(ab x.calls n).aj=(c:Int)/\bV (ab x.calls n)=true
 .have hl:=zI U h.len hc.2;have ha:=zJ U h.rest h.len hc.2;have hk:∀m∈gD (ab x.calls n),m.kind=3/\dw m.ar=true/\m.to/2=(ab x.calls n).aj:=λm hm=>by
   unfold gD at hm;rw[if_pos hc.2] at hm;obtain⟨ws,h1,h2⟩:=List.mem_flatten.1 hm;obtain⟨z,hz,rfl⟩:=List.mem_map.1 h1;have zL:z.kind=3/\dw z.ar=true:=by
    unfold asks at hz;rw[if_neg h.read,h.aL] at hz;simp only[List.map_nil,List.append_nil] at hz;obtain⟨_,_,rfl⟩:=List.mem_map.1 hz;exact⟨rfl,rfl⟩
   unfold jq at h2;rcases List.mem_cons.1 h2 with rfl|h2
   .exact⟨zL.1,zL.2,by show 2*(ab x.calls n).aj/2=_;omega⟩
   obtain rfl:=List.mem_singleton.1 h2;exact⟨zL.1,zL.2,by show(2*(ab x.calls n).aj+1)/2=_;omega⟩
  have uH:(bR x (ev 2 0 (ab x.calls n).aj)).al=gD (ab x.calls n):=by rw[hl]
  have g:jR V n (bR x (ev 2 0 (ab x.calls n).aj)):={
   calm:=ha.calm
   rest:=ha.rest
   len:=by rw[hl];exact h.len
   sub:=by rw[hl];exact h.sub
   sup:=by rw[hl];exact h.sup
   kinds:=λm hm=>by rw[uH] at hm;have:=(hk m hm).1;omega
   ask:=λm hm e=>by
    rw[uH] at hm;have:=(hk m hm).2;rw[hl];exact this
   BF:=λm hm e=>by rw[uH] at hm;have:=(hk m hm).1;omega
   read:=by rw[hl];exact h.read
   over:=by rw[hl];exact h.over
   au:=by rw[hl];exact h.au
   aL:=by rw[hl];exact h.aL
   others:=by rw[hl];exact h.others}
  rw[hc.1] at g;exact g.qd
 rw[BD U λk hk e=>by
  by_cases e2:k=n
  .subst e2;cases hw:bV (ab x.calls k) with
   |false=>rfl
   |true=>exact absurd ⟨e,hw⟩ hc
  exact h.others k hk e2]
 exact⟨h,hr⟩
def jR.round {V:aA->Prop} {n:Nat} {x:ai} (h:jR V n x) (hr:x.al=[]):jR V n (eD x)/\(eD x).al=[]:=by
 rw[HH ⟨h.calm,hr⟩];obtain⟨h,hr⟩:=h.j3 hr (i:=0) aP;obtain⟨h,hr⟩:=h.j3 hr (i:=1) aP;obtain⟨h,hr⟩:=h.j3 hr (i:=2) aP;obtain⟨h,hr⟩:=h.j3 hr (i:=3) aP;obtain⟨h,hr⟩:=h.asked hr 0;exact h.asked hr 1
def jR.bl {V:aA->Prop} {n:Nat}:∀(k:Nat) {x:ai},jR V n x->x.al=[]->jR V n (bl k x)
 |0,_,h,_=>h
 |k+1,x,h,hr=>by
  show jR V n (if x.time<79999 then _ else x);split
  .exact jR.bl k (h.round hr).1 (h.round hr).2
  exact h
structure jE (V:aA->Prop) (n:Nat) (x:ai):Prop where
 calm:Calm x
 rest:Rest x
 len:n<x.calls.length
 new:∀σ v,be x σ v->V v\/v.aj=(ab x.calls n).aj/\v.call=(ab x.calls n).num/\∀u,V u->u.key=v.key->bQ v.ar u.ar=false
 sup:∀v,V v->∀σ,σ<2->be x σ v
 kinds:∀m∈x.al,1<=m.kind
 one:∀m∈x.al,m.kind=1->m.aT=10+(ab x.calls n).aj/\m.call=(ab x.calls n).num
 over:(ab x.calls n).over=false
 others:∀k,k<x.calls.length->k≠n->bV (ab x.calls k)=false
def Em {w:ai} (h:ie w 20) {σ τ:Nat} (hσ:σ<2) (hτ:τ<2) {v:aA} (hv:be w σ v):be w τ v:=by
 have hI:=h.still.calm.inv;have e:=Xe h;have h0:∀σ:Nat,σ<2->(v∈cg w (σ:Int)↔v∈cg w 0):=λσ hσ=>by
  rcases(by omega:σ=0\/σ=1) with rfl|rfl
  .exact Iff.rfl
  rw[e];exact Iff.rfl
 exact(kH hI hτ).1 ((h0 τ hτ).2 ((h0 σ hσ).1 ((kH hI hσ).2 hv)))
def ale {q:Call} {t:Int} (hg:dJ q t) {k0 k1 k2:Int} (hk:q.keys=[k0,k1,k2]) (hlen:q.au.length=q.keys.length) (h01:k0<k1) (F7:k1<k2):∃a b c,q.au=[a,b,c]/\a.key=k0/\b.key=k1/\c.key=k2:=by
 have hh:=hg.has;have U:=hg.sorted;rw[hk] at hlen;match e:q.au,hlen with
 |[a,b,c],_=>
  rw[e] at U
  have h1:=lR.1 (hh a (by rw[e];simp))
  have h2:=lR.1 (hh b (by rw[e];simp))
  have h3:=lR.1 (hh c (by rw[e];simp))
  rw[hk] at h1 h2 h3
  simp only[List.mem_cons,List.not_mem_nil,or_false] at h1 h2 h3
  simp only[List.pairwise_cons,List.mem_cons,List.not_mem_nil,or_false,gZ,decide_eq_true_eq] at U
  have a1:=U.1 b (.inl rfl)
  have a2:=U.1 c (.inr rfl)
  have a3:=U.2.1 c rfl
  exact⟨a,b,c,rfl,by omega,by omega,by omega⟩
def alg {y:ai} (hI:Inv y) (ht:y.time<=99999) {σ:Nat} (hσ:σ<2) {V:aA->Prop} (hV:∀v,V v↔be y σ v) {a:Answer} (hb:sC V a):dY (cg y (σ:Int)) a.key=if a.yes=true then some a.aY else none:=by
 cases e:dY (cg y (σ:Int)) a.key with
 |none=>
  split
  .rename_i hy
   obtain⟨h1,h2,_⟩:=hb.top hy
   exact absurd h2 (Lx e ((kH hI hσ).2 ((hV _).1 h1)))
  rfl
 |some t=>
  have hm:=uj e
  have NP:V t:=(hV t).2 ((kH hI hσ).1 hm.1)
  cases hy:a.yes with
  |false=>exact absurd hm.2 (hb.no hy t NP)
  |true=>
   obtain⟨h1,h2,h3⟩:=hb.top hy
   rw[if_pos rfl]
   have hl:=GM (ags (fD.2 ⟨hI.aN,ht⟩) om om) e ((kH hI hσ).2 ((hV _).1 h1)) h2
   have U:=FU (h3 t NP hm.2) hl
   have:=hI.uniq _ _ a.aY t ((hV _).1 h1) ((hV _).1 NP) (by unfold aA.aU;rw[U,h2,hm.2])
   rw[this]
def alh {o:Option aA} {a:Answer} (h:o=if a.yes=true then some a.aY else none) (hy:o.isSome=true):Fn prog 30 [(o.getD default).av,a.aY.av] (AV.bool true):=by
 cases ha:a.yes with
 |true=>rw[h,ha];exact KI a.aY
 |false=>rw[h,ha] at hy;cases hy
end Go.Proofs.YtldbakcpcfdlaaaGreat
