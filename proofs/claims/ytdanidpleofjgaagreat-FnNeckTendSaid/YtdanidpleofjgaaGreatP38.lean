/- Part 38: contracts of functions, plain facts. -/
import Derived.Test.YtdanidpleofjgaaGreatP25
import Derived.Test.YtdanidpleofjgaaGreatP26
set_option linter.all false
set_option maxRecDepth 100000
set_option maxHeartbeats 4000000
namespace Go.Proofs.YtdanidpleofjgaaGreat
open Go Go.RowKit Tryz
attribute [local irreducible] wpList Code.wp Ok
def aeD (s:Server) (m:az) (hg:bH s) (hm:bM m=true):
 Fn prog 190 [s.av,m.av] (AV.db [(ir s m).1.av,cQ (ir s m).2]):=by
 refine Fn.go 158 func190 ntmps190 (λW I a U=>?_);have al:=jx.2 hg;have cV:=hg.ok;have kU:=nx hm;have jM:=qB hm;have h3:=hg.aF;have h4:(eb s m.slot).aF.length=3:=h3;have oK:=cV.drop m.slot;have hdv:=gz oK.an;have vu:=gz kU.1;have JD:=gz kU.2.1;have Nn:=iR kU.2.2.1;have hdw:=gz oK.waits;have hdo:=iR (hg.eb m.slot).aD;have lens:m.aR.length<=9223372036854775807/\m.an.length<=9223372036854775807/\m.waits.length<=9223372036854775807/\m.aD.length<=9223372036854775807:=⟨U.ln 1 9,U.ln 1 12,U.ln 1 13,U.ln 1 14⟩;have jP:=iR hg.aD;have e9:∀x,x=cG.cells ⟨m.bf,1⟩->(List.map cG.cells (eb s m.slot).aF).set m.slot.toNat x=List.map cG.cells (xm s m 0 0 0).aF:=λx h=>by rw[h];exact List.map_set.symm
 refine aH λI a w U=>?_;refine U.alloc rfl cq dz λb4 I a w U=>?_;refine ax λI a w U=>?_;refine U.l0 λw9 I a w U=>?_;obtain⟨I,U⟩:=U.fr 1 12;refine ax λI a w U=>?_;refine U.dk ?_;refine dM ?_;refine .o (.c1 (yL _ hg.site)) ?_;refine gZ ?_;refine .nil ?_;intro I a w U;refine bk ?_;refine U.cd (λae=>?_) λae=>?_
 .rw[OS s m] at ae;replace ae:=nt ae;refine aY λI a w U=>?_;refine U.ret rfl (.cons (.sx 0) (.cons .x ba.nil)) ?_;exact(by rw[ZT ae];rfl)
 rw[OS s m] at ae;replace ae:=nf ae;refine lI λI a w U=>?_;refine U.o (.bd dN (.k (.k (.k (.k (.k aW.nil)))))) λU=>?_;refine U.alloc rfl dj dN λb7 I a w U=>?_;refine ax λI a w U=>?_;obtain⟨I,U⟩:=U.fb 2 7;refine ax λI a w U=>?_;refine U.cd (λah=>?_) λah=>?_
 .refine wp_seq ?_;refine U.dh (rp 3 [([0],some (0,[])),([],none)]) aG aG rfl ?_;refine cj ?_;refine .o (.li [(nr s m).cells] gw (.u .nil)) ?_;refine aK.cX (x:=AV.any) 0 (λF W0 I0 I a w Q U kk=>U.sb 0 λU=>kk _ _ _ U) ?_;refine aX ?_;refine .nil ?_;intro I a w U;refine zt ?_;refine U.ret rfl (.cons (.sx 0) (.cons .x ba.nil)) ?_;exact(by rw[QC ae (by simpa using ah)];rfl)
 refine aV λI a w U=>?_;refine U.o (cr (Rd s m.slot cV.an cV.waits om) (ai (.t rfl) (ai (.t rfl) aC))) λU=>?_;refine U.alloc rfl cq dz λb8 I a w U=>?_;refine Wn λI a w U=>?_;refine U.cd (λaj=>?_) λaj=>?_
 .rw[Sh s m] at aj;replace aj:=nt aj;refine aY λI a w U=>?_;refine U.ret rfl (.cons (.sx 0) (.cons .x ba.nil)) ?_;exact(by rw[Ip ae (by simpa using ah) (by rw[aj];rfl)];rfl)
 rw[Sh s m] at aj;replace aj:=nf aj;refine zt ?_;refine U.l0 λb82 I a w U=>?_;refine aH λI a w U=>?_;refine U.ap 4 λv85 a w U=>?_;refine U.o .fv λU=>?_;try have ana:=U.dZ 4 rfl
 refine ax λI a w U=>?_;simp only[List.nil_append] at U;obtain⟨b85,anc,e85⟩:=U.ia 4 rfl pt;subst e85;refine dI λI a w U=>?_;refine U.o (.bd mC (.k (.k aW.nil))) λU=>?_;refine U.o (gq fP ew .tt .tt (λ_=>by simp only[List.length_map];omega)) λU=>?_;refine U.jZ 4 ew .tt .tt rfl (by exact ey om) rfl rfl λa w U=>?_;refine zt ?_;rw[e9] at U;rotate_left
 .rfl
 obtain⟨I,U⟩:=U.fu 4 2 3;refine ax λI a w U=>?_;refine St.lo (σ:=Nat) (9::(run 19 95 [])) ⟨λi=>[(9,AV.int i)],λi=>[Own.box b4 43 [AV.val (.int .i64 0),AV.val (.bool false),AV.rows 2 [],AV.rows 7 [],AV.rows 7 [],AV.rows 3 [],AV.rows 3 []],Own.gone,Own.gone,Own.box b8 43 (xm s m i 0 0).cells,Own.gone],λi=>i<=m.an.length⟩ (λi=>m.an.length-i) 0 U ?aL ?bG;case aL=>exact Nat.zero_le _
 rintro i I a w al U;have hi:i<=m.an.length:=al;dsimp only at U;refine ct λI a w U=>?_;refine cz (λaJ=>?_) λaJ=>?_
 .refine zt ?_;refine U.dh [([],none),([3],none),([],none),([],none),([],none),([],none),([],none),([],none),([],none),([],none),([],none),([],none),([3],some (3,[]))] aG aG rfl ?_;refine aX ?_;refine .r [3] (.lb 3) ?_;refine fD ?_;refine .o (.cl (Si oK.an kU.1 (I7 aj).1 aJ)) ?_;refine dM ?_;refine aK.cX (x:=AV.any) 3 (λF W0 I0 I a w Q U kk=>U.s1 3 λU=>kk _ _ _ U) ?_;refine .nil ?_;intro I a w U;refine aN λI a w U=>?_;exact U.ag (i+1) (aJ)
 refine zt ?_;refine ax λI a w U=>?_;refine St.lo (σ:=Nat) (10::(run 19 114 [])) ⟨λj=>[(10,AV.int j)],λj=>[Own.box b4 43 [AV.val (.int .i64 0),AV.val (.bool false),AV.rows 2 [],AV.rows 7 [],AV.rows 7 [],AV.rows 3 [],AV.rows 3 []],Own.gone,Own.gone,Own.box b8 43 (xm s m i j 0).cells,Own.gone],λj=>j<=m.waits.length⟩ (λj=>m.waits.length-j) 0 U ?ei ?jK;case ei=>exact Nat.zero_le _
 rintro j I a w al U;have hj:j<=m.waits.length:=al;dsimp only at U;refine ct λI a w U=>?_;refine cz (λaP=>?_) λaP=>?_
 .refine zt ?_;refine U.dh [([],none),([3],none),([],none),([],none),([],none),([],none),([],none),([],none),([],none),([],none),([],none),([],none),([3],some (3,[]))] aG aG rfl ?_;refine aX ?_;refine .r [3] (.lb 3) ?_;refine fD ?_;refine .o (.cl (Si oK.waits kU.2.1 (I7 aj).2.1 aP)) ?_;refine dM ?_;refine aK.cX (x:=AV.any) 3 (λF W0 I0 I a w Q U kk=>U.s1 3 λU=>kk _ _ _ U) ?_;refine .nil ?_;intro I a w U;refine aN λI a w U=>?_;exact U.ag (j+1) (aP)
 refine zt ?_;refine ax λI a w U=>?_;refine St.lo (σ:=Nat) (11::(run 16 133 [])) ⟨λk=>[(11,AV.int k)],λk=>[Own.box b4 43 [AV.val (.int .i64 0),AV.val (.bool false),AV.rows 2 [],AV.rows 7 [],AV.rows 7 [],AV.rows 3 [],AV.rows 3 []],Own.gone,Own.gone,Own.box b8 43 (xm s m i j k).cells,Own.gone],λk=>k<=m.aD.length⟩ (λk=>m.aD.length-k) 0 U ?iN ?pj;case iN=>exact Nat.zero_le _
 rintro k I a w al U;have hk:k<=m.aD.length:=al;dsimp only at U;refine ct λI a w U=>?_;refine cz (λbn=>?_) λbn=>?_
 .refine zt ?_;refine U.dt 9 ?_;simp only[TD];refine kJ ?_;refine .o (.cl (abg (I7 aj).2.2 bn)) ?_;refine aX ?_;refine .nil ?_;intro I a w U;refine aY λI a w U=>?_;exact U.ag (k+1) (bn)
 refine zt ?_;refine U.o (.ls 3) λU=>U.o (.c1 (vj ..)) λU=>?_;refine ax λI a w U=>?_;refine U.cd (λbl=>?_) λbl=>?_
 .rw[(EE s m om om om),Bool.not_eq_true'] at bl;refine aY λI a w U=>?_;refine U.ret rfl (.cons (.sx 0) (.cons .x ba.nil)) ?_;exact(by rw[Ip ae (by simpa using ah) (by rw[aj,bl];rfl)];rfl)
 rw[(EE s m om om om),Bool.not_eq_false'] at bl;refine zt ?_;refine U.dh (([3],none)::rp 3 [([0],some (0,[])),([],none)]) aG aG rfl ?_;refine .r [3] (.ls 3) ?_;refine .o (cr (zD (xm s m i j k) (by rw[(EE s m om om om)];exact(jx.1 bl).ok)) (ai (.t rfl) aC)) ?_;refine aX ?_;refine .o (.li [(nr s m).cells] gw (.u .nil)) ?_;refine aK.cX (x:=AV.any) 0 (λF W0 I0 I a w Q U kk=>U.sb 0 λU=>kk _ _ _ U) ?_;refine aX ?_;refine .nil ?_;intro I a w U;refine zt ?_;refine U.ret rfl (.cons (.sx 0) (.cons .x ba.nil)) ?_;exact(by rw[QD ae (by simpa using ah) (by rw[aj,bl];rfl),(EE s m om om om)];rfl)
def acW (l:List (Call)) (p:(Call)->Bool) (fv:AV) (hf:∀x:Call,x∈l->lD prog fv [x.av] (AV.bool (p x))):
 Fn prog 197 [fB l,fv] (AV.int (dm p l)):=by
 refine Fn.go 19 func197 ntmps197 (λW I a U=>?_);have hle:=U.dE (t:=0) rfl;refine aY λI a w U=>?_;refine St.lo (σ:=Nat) (run 2 4 (run 11 8 [])) ⟨λk=>[(8,AV.int k)],λk=>[],λk=>k<=l.length/\∀i,i<k->p (ab l i)=false⟩ (λk=>l.length-k) 0 U ?aL ?bG;case aL=>exact⟨Nat.zero_le _,λi hi=>by omega⟩
 rintro k I a w al U;obtain⟨hk,aT⟩:=al;refine ax λI a w U=>?_;refine cz (λae=>?_) λae=>?_
 .refine fo λI a w U=>?_;refine U.o (yi (hf _ (bB ae)) .tt (ai .tt aC)) λU=>?_;refine zt ?_;refine U.cd (λah=>?_) λah=>?_
  .refine di ?_;exact fM (ng ae aT ah).symm
  refine aB λI a w U=>?_;exact U.ag (k+1) (⟨ae,λi h1=>by rcases Nat.lt_succ_iff_lt_or_eq.1 h1 with h|h;exact aT i h;rw[h];exact ah⟩)
 refine zt ?_;refine bc ?_;exact fM (mF om aT).symm
def Jq (w:aI) (e:Ev):(cT w e).1.time=w.time+1:=by
 unfold cT iC kb iu lu fl;dsimp only;repeat' split
 all_goals rfl
def acX (s:Server) (hg:bH s):
 Fn prog 144 [s.av] (cQ (kT s)):=by
 refine Fn.go 155 func144 ntmps144 (λW I a U=>?_);have al:=jx.2 hg;have cV:=hg.ok;have lens:s.aF.length<=9223372036854775807/\s.an.length<=9223372036854775807/\s.waits.length<=9223372036854775807/\s.aD.length<=9223372036854775807/\s.bj.length<=9223372036854775807:=⟨U.ln 0 2,U.ln 0 3,U.ln 0 4,U.ln 0 5,U.ln 0 6⟩;have h3:=hg.aF;have zc:=gz hg.an;have kU:=gz hg.waits;have jP:=iR hg.aD;have jN:∀v∈s.waits,v.aR.length<=6:=λv hv=>eL (jv (gy hg.waits v hv)).2.2;have hsd:=Hi hg.site;refine aB λI a w U=>?_;refine U.l0 λtX I a w U=>?_;refine aH λI a w U=>?_;refine U.o (.c1 (vj ..)) λU=>?_;refine gY λI a w U=>?_;refine U.cd (λae=>?_) λae=>?_
 .rw[DO] at ae;replace ae:=nt ae;refine aB λI a w U=>?_;obtain⟨I,U⟩:=U.fr 0 2;refine U.rt ?_;exact(by rw[al,Bool.true_and] at ae;rw[RB ae];rfl)
 rw[DO] at ae;replace ae:=nf ae;rw[Bool.and_eq_true] at ae;refine ax λI a w U=>?_;refine St.lo (σ:=Nat×Value) (run 2 3 (run 20 24 [])) ⟨λ⟨n,v⟩=>[(4,AV.int n),(3,AV.val v)],λ⟨n,v⟩=>[Own.row v 84 15 ((pg s n).map az.cells)],λ⟨n,v⟩=>n<=s.aF.length⟩ (λ⟨n,v⟩=>s.aF.length-n) (0,.slice (some ⟨tX,0,none⟩) 0 0) U ?aL ?bG;case aL=>exact Nat.zero_le _
 rintro⟨n,v⟩ I a w al U;have hn:n<=s.aF.length:=al;dsimp only at U;refine ct λI a w U=>?_;refine cz (λah=>?_) λah=>?_
 .refine jf λI a w U=>?_;refine cz (λaj=>?_) λaj=>?_
  .refine aV λI a w U=>?_;refine U.o (cr (RZ s (n:Int) cV.an cV.waits hg.site h3 om jP) (ai (.t rfl) (ai (.t rfl) aC))) λU=>?_;refine U.o (.li [(gi s (n:Int)).cells] gw (.u .nil)) λU=>?_;refine U.append 0 rfl fi dj rfl .tt .r rfl (by have:=Ib s n;simp;omega) λER a w U=>?_;rw[bV,Rf (by simpa using aj)] at U;refine aY λI a w U=>?_;exact U.ag (n+1,ER) (ah)
  refine aN λI a w U=>?_;rw[Rv (by simpa using aj)] at U;exact U.ag (n+1,v) (ah)
 refine zt ?_;refine aH λI a w U=>?_;refine U.o (.c1 (qL ..)) λU=>?_;refine U.o (m6 .c .tt (λ_=>by omega)) λU=>?_;refine aB λI a w U=>?_;rw[Rw om] at U;refine ax λI a w U=>?_;refine St.lo (σ:=Nat×Value) (3::(run 4 6 (run 49 49 []))) ⟨λ⟨k,v⟩=>[(6,AV.int k),(3,AV.val v)],λ⟨k,v⟩=>[Own.row v 84 15 ((iW s k).map az.cells)],λ⟨k,v⟩=>k<=s.aD.length⟩ (λ⟨k,v⟩=>s.aD.length-k) (0,v) U ?ei ?jK;case ei=>exact Nat.zero_le _
 rintro⟨k,v⟩ I a w al U;have hk:k<=s.aD.length:=al;dsimp only at U;refine ct λI a w U=>?_;refine cz (λaJ=>?_) λaJ=>?_
 .refine zt ?_;have U:=U.gF;refine U.dh [([],none),([],none),([],none),([],none),([],none),([],none),([],none),([],none),([],none),([],none),([],none),([],none),([],none),([],none),([],none),([],none),([],none),([],none),([1],some (1,[7])),([1],some (1,[7])),([],none)] aG aG rfl ?_;refine tk ?_;refine .o (.cl (sj ..)) ?_;refine dJ ?_;refine aK.alloc 1 rfl rfl bU dR<|aK.qv 1 rfl bU rfl .tt rfl rfl ?_;refine aX ?_;refine .nil ?_;intro I a w U;obtain⟨b7,U⟩:=U.my (d:=7) 1 rfl rfl;obtain⟨I,U⟩:=U.fb 1 7;obtain⟨vd,su,BM,iK⟩:=QE hg (bB aJ);have hva:j6 s.an ⟨(ab s.aD k).key,(ab s.aD k).ar⟩=some vd:=by rw[Bz hg.an];exact su
  rw[show(j6 s.an ⟨(ab s.aD k).key,(ab s.aD k).ar⟩).getD default=vd from by rw[hva];rfl] at U;refine bk<|wp_seq<|wp_seq<|U.dk ?_;refine dM ?_;refine .o (.c1 (uJ ..)) ?_;refine .o ((by first|exact dW fP ew .tt .tt (λ_=>by have:=qI (qH (gy hg.an vd iK));omega)|exact fe fP ew .tt .tt (λ_=>by have:=qI (qH (gy hg.an vd iK));omega)|exact fm fP ew .tt .tt (λ_=>by have:=qI (qH (gy hg.an vd iK));omega))) ?_;refine dJ ?_;refine .nil ?_;intro I a w U;refine bk ?_;refine cz (λaP=>?_) λaP=>?_
  .refine zt ?_;refine aN λI a w U=>?_;have U:=U.drop 1;rw[aaI aJ BM (by simpa using aP)] at U;exact U.ag (k+1,v) (aJ)
  refine wp_skip<|bk<|wp_seq ?_;rw[show iW s k=iW s k++(j8 s (ab s.aD k)).take 0 from by simp] at U;refine ax λI a w U=>?_;refine St.lo (σ:=Nat×Value) (3::(9::(run 15 83 []))) ⟨λ⟨j,v2⟩=>[(9,AV.int j),(3,AV.val v2)],λ⟨j,v2⟩=>[Own.row v2 84 15 ((iW s k++(j8 s (ab s.aD k)).take j).map az.cells),Own.gone],λ⟨j,v2⟩=>j<=2⟩ (λ⟨j,v2⟩=>2-j) (0,v) U ?iN ?pj;case iN=>exact Nat.zero_le _
  rintro⟨j,v2⟩ I a w al U;have hj:j<=2:=al;dsimp only at U;refine aB λI a w U=>?_;refine cz (λbn=>?_) λbn=>?_
  .refine fo λI a w U=>?_;refine U.o (.li [vd.cells] ju (.u .nil)) λU=>?_;refine U.o (.bd dN (.k (.k (.k (.k aW.nil))))) λU=>?_;refine U.o (.li [({cn with kind:=5,aU:=s.site,to:=2-2*bP s.site+(j:Int),an:=[vd]}:az).cells] gw (.u .nil)) λU=>?_;refine U.append 0 rfl fi dj rfl .tt .r rfl (by have:=zs s k hk;simp;omega) λv97 a w U=>?_;rw[bV,Rj (by unfold dU;rw[<-BM];simpa using aP) su om] at U;refine aY λI a w U=>?_;exact U.ag (j+1,v97) (by show j+1<=2;omega)
  refine zt ?_;refine aN λI a w U=>?_;have U:=U.drop 1;rw[Rx aJ om] at U;exact U.ag (k+1,v2) (aJ)
 refine zt ?_;refine U.l0 λb98 I a w U=>?_;refine ax λI a w U=>?_;rw[Ri om] at U;refine ax λI a w U=>?_;refine St.lo (σ:=Nat×Value×Value) (3::(run 4 10 (run 54 99 []))) ⟨λ⟨i,v,u⟩=>[(11,AV.int i),(3,AV.val v),(10,AV.val u)],λ⟨i,v,u⟩=>[Own.row v 84 15 ((nC s (mQ s i)).map az.cells),Own.row u 115 3 ((mQ s i).map ao.cells)],λ⟨i,v,u⟩=>i<=s.waits.length⟩ (λ⟨i,v,u⟩=>s.waits.length-i) (0,v,.slice (some ⟨b98,0,none⟩) 0 0) U ?xx ?Jr;case xx=>exact Nat.zero_le _
 rintro⟨i,v,u⟩ I a w al U;have hi:i<=s.waits.length:=al;dsimp only at U;refine ct λI a w U=>?_;refine cz (λbl=>?_) λbl=>?_
 .refine ax λI a w U=>?_;refine St.lo (σ:=Nat×Value×Value) (3::(10::(run 2 12 (run 47 106 [])))) ⟨λ⟨j,v2,u2⟩=>[(12,AV.int j),(3,AV.val v2),(10,AV.val u2)],λ⟨j,v2,u2⟩=>[Own.row v2 84 15 ((nC s (ji s i j)).map az.cells),Own.row u2 115 3 ((ji s i j).map ao.cells)],λ⟨j,v2,u2⟩=>j<=(ab s.waits i).aR.length⟩ (λ⟨j,v2,u2⟩=>(ab s.waits i).aR.length-j) (0,v,u) U ?Js ?ac2;case Js=>exact Nat.zero_le _
  rintro⟨j,v2,u2⟩ I a w al U;have hj:j<=(ab s.waits i).aR.length:=al;have hdj:=jN _ (bB bl);dsimp only at U;refine mA λI a w U=>?_;refine cz (λcm=>?_) λcm=>?_
  .refine wj λI a w U=>?_;refine U.alloc rfl cE fh λEz I a w U=>?_;refine ax λI a w U=>?_;obtain⟨I,U⟩:=U.fb 2 13;refine aH λI a w U=>?_;refine U.o (.c2 (P1 s _ cV.an)) λU=>?_;refine bz λI a w U=>?_;refine U.q .T (Da 1 (ai .ag (ai .ag aC)) rfl (Bj (ji s i j) (ab (ab s.waits i).aR j)) (λ_ _ _ h=>h)) λU=>?_;refine aB λI a w U=>?_;refine U.cd (λc8=>?_) λc8=>?_
   .refine aH λI a w U=>?_;refine U.o (.li [(ab (ab s.waits i).aR j).cells] fE (.u .nil)) λU=>?_;refine U.append 1 rfl du cE rfl .tt .r rfl (by have:=zh jN i hi;have:=Bo s i j;have:=jN _ (bB bl);simp;omega) λac4 a w U=>?_;rw[bV,show ji s i j++[(ab (ab s.waits i).aR j)]=ji s i (j+1) from by rw[y6 cm,D1 c8]] at U;refine ax λI a w U=>?_;refine U.dt 12 ?_;simp only[TD];refine fD ?_;refine .o (.c1 (yL _ hg.site)) ?_;refine dM ?_;refine .o (.bd dN (.k (.k (.k (.k (.t aW.nil)))))) ?_;refine .o (.li [(mb s (ab (ab s.waits i).aR j)).cells] gw (.u .nil)) ?_;refine .nil ?_;intro I a w U;refine U.append 0 rfl fi dj rfl .tt .r rfl (by have:=zh jN i hi;have:=Bo s i j;have:=jN _ (bB bl);have:=zs s _ (Nat.le_refl s.aD.length);simp[nC];omega) λac5 a w U=>?_;rw[bV,Rh,show ji s i j++[(ab (ab s.waits i).aR j)]=ji s i (j+1) from by rw[y6 cm,D1 c8]] at U;refine aY λI a w U=>?_;have U:=U.drop 2;exact U.ag (j+1,ac5,ac4) (cm)
   refine aN λI a w U=>?_;have U:=U.drop 2;rw[show ji s i j=ji s i (j+1) from by rw[y6 cm,PW c8]] at U;exact U.ag (j+1,v2,u2) (cm)
  refine zt ?_;refine aN λI a w U=>?_;rw[HP bl om] at U;exact U.ag (i+1,v2,u2) (bl)
 refine wp_exit<|cM<|cM<|fI<|bk<|wp_seq ?_;rw[HQ s om,I8 ae.2 h3] at U;obtain⟨I,U⟩:=U.fr 0 3;refine bA λI a w U=>?_;refine U.o (cr (H8 (kT s) (by have:=RR hg;omega) (λy hy=>w3 (EO hg y hy))) (ai .r aC)) λU=>?_;refine bc ?_;rfl
def ac6 {l:List aE} {d:ao} {v:aE} (h:iI l d=some v):0<=placeOf l d/\placeOf l d<l.length/\ab l (placeOf l d).toNat=v:=by
 unfold iI at h;split at h
 .rename_i hp;have:=(Bf hp).1;exact⟨hp,by omega,Option.some.inj h⟩
 cases h
def sG (q:Call) (k:Nat):List az:=qc q q.keys.length++((q.aO.take k).map λd=>jS q (xq d)).flatten
def ac7 {q:Call} {k:Nat} (h:k=q.keys.length):qc q k=sG q 0:=by subst h;simp[sG]
def Sy {q:Call} {k:Nat} (h:k<q.aO.length):sG q k++jS q (xq (ab q.aO k))=sG q (k+1):=by
 unfold sG;rw[ez h,List.map_append,List.flatten_append,List.append_assoc];simp
def Sz (q:Call):∀k,k<=q.aO.length->(sG q k).length<=2*q.keys.length+2*k
 |0,_=>by have:=I9 q q.keys.length (Nat.le_refl _);simp[sG];omega
 |k+1,h=>by
  have ih:=Sz q k om;rw[<-Sy om,List.length_append];show _+2<=_;omega
def ac8 {q:Call} {k:Nat} (hw:gP q=true) (hk:¬q.kind=1) (h:q.aO.length<=k):sG q k=jH q:=by
 unfold jH asks sG qc;rw[if_pos hw,if_neg hk,List.take_length,List.take_of_length_le h,List.map_append,List.flatten_append,List.map_map,List.map_map];rfl
def Jt (q:Call):
 Fn prog 199 [q.av] (AV.bool (gP q)):=by
 refine Fn.go 11 func199 ntmps199 (λW I a U=>?_);refine AO λI a w U=>?_;refine U.rt ?_;exact bF (by unfold gP;rfl)
def ac9 (q:Call) (n:Value) (t:Int) (hg:∀y∈q.aA,dF y=true) (hl:q.aA.length<=1048576) (hn:q.aO.length<=1048576):
 gG prog 239 [q.yH n,AV.int t] [Own.row n 115 3 (q.aO.map ao.cells)] [] (lO {q with aO:=q.aO++j9 q} t).av:=by
 refine bT.intro 54 func239 rfl ntmps239 rfl aG (λW I a U=>?_);have dV:bN (fy q)=true:=(sq (l:=q.aA) (acc:=[]) rfl hg).1;refine sr<|U.box rfl .tt λb2 I a w U=>U.alloc rfl eR j2 λb4 I a w U=>?_;refine bA λI a w U=>?_;refine U.o (.c1 (acq q n hg hl)) λU=>?_;refine aB λI a w U=>?_;refine St.lo (σ:=Nat×Value) (run 2 6 (run 37 10 [])) ⟨λ⟨k,v⟩=>[(6,AV.int k)],λ⟨k,v⟩=>[Own.row v 115 3 ((nB q k).map ao.cells),Own.box b2 53 [AV.int q.aq,AV.int q.num,AV.int q.kind,iz q.keys,AV.int q.val,bw q.ctx,AV.int q.bE,AV.int q.end_,AV.bool q.over,AV.int q.ar.time,AV.int q.ar.site,oN q.aA,AV.val v],Own.box b4 53 [AV.val (.int .i64 0),AV.val (.int .i64 0),AV.val (.int .i64 0),AV.rows 1 [],AV.val (.int .i64 0),AV.rows 3 [],AV.val (.int .i64 0),AV.val (.int .i64 0),AV.val (.bool false),AV.val (.int .i64 0),AV.val (.int .i64 0),AV.rows 9 [],AV.rows 3 []]],λ⟨k,v⟩=>k<=q.aA.length⟩ (λ⟨k,v⟩=>q.aA.length-k) (0,n) U ?aL ?bG;case aL=>exact Nat.zero_le _
 rintro⟨k,v⟩ I a w al U;have hk:k<=q.aA.length:=al;dsimp only at U;refine ct λI a w U=>?_;refine cz (λae=>?_) λae=>?_
 .refine fo λI a w U=>?_;refine U.o (.cl (abd _ _ dV)) λU=>?_;refine U.alloc rfl jF ic λb7 I a w U=>?_;refine ax λI a w U=>?_;obtain⟨I,U⟩:=U.fb 3 7;refine U.dk ?_;refine mB ?_;refine .o (.c2 (wx ..))<|.nil ?_;intro I a w U;refine bk ?_;refine U.cd (λah=>?_) λah=>?_
  .refine U.dt 11 ?_;simp only[TD];refine yv ?_;refine .o (.bd fh (.k (.t aW.nil))) ?_;refine .o (.li [ao.cells ⟨(ab q.aA k).key,bL (fy q) (ab q.aA k).key⟩] fE (.u .nil)) ?_;refine .nil ?_;intro I a w U;refine U.append 0 rfl du cE rfl .tt .r rfl (by have:=Q2 q k hk;simp;omega) λIl a w U=>?_;refine U.o .fv λU=>?_;try have amB:=U.dZ 0 rfl
   refine ax λI a w U=>?_;rw[bV,abi ae ah] at U;refine aN λI a w U=>?_;have U:=U.drop 3;exact U.ag (k+1,Il) (ae)
  refine aN λI a w U=>?_;have U:=U.drop 3;rw[abj ae (by rw[ah];simp)] at U;exact U.ag (k+1,v) (ae)
 refine wp_exit<|cM<|cM<|fI<|bk<|wp_seq<|wp_seq ?_;rw[aa8 hk om] at U;refine aH λI a w U=>?_;refine U.o (lC 0 du .tt rfl) λU=>?_;refine ax λI a w U=>?_;refine cz (λaj=>?_) λaj=>?_
 .refine aN λI a w U=>?_;obtain⟨I,U⟩:=U.fu 0 12 1;refine aB λI a w U=>?_;refine U.bJ () [] rfl (.cons (.sx 2) .nil) trivial rfl ?_;exact(by unfold lO;rw[if_pos (by apply List.length_eq_zero_iff.1;rw[List.length_map] at aj;exact Int.ofNat_eq_zero.1 aj)];rfl)
 refine wp_skip<|bk<|wp_seq ?_;obtain⟨I,U⟩:=U.fu 0 12 1;refine aB λI a w U=>?_;refine U.bJ () [] rfl (.cons (.sx 2) .nil) trivial rfl ?_;exact(by unfold lO;rw[if_neg (λe=>aj (by rw[show q.aO++j9 q=[] from e];rfl))];rfl)
def ada (q:Call) (n:Value) (x:Answer) (t:Int) (hg:∀y∈q.aA,dF y=true) (hx:dF x=true) (hl:q.aA.length<=1048575) (lB:q.keys.length<=1048576) (hn:q.aO.length<=1048576):
 gG prog 215 [q.yH n,x.av,AV.int t] [Own.row n 115 3 (q.aO.map ao.cells)] [] (mV q x t).av:=by
 refine bT.intro 62 func215 rfl ntmps215 rfl aG (λW I a U=>?_);refine sr<|U.box rfl .tt λb3 I a w U=>U.o .bp λU=>U.alloc rfl eR j2 λb6 I a w U=>?_;refine zt ?_;refine U.l0 λkS I a w U=>?_;refine aN λI a w U=>?_;refine St.lo (σ:=Nat×Bool×List Answer×Value) (run 3 7 (run 32 11 [])) ⟨λ⟨k,done,out,v⟩=>[(9,AV.int k),(8,AV.bool done),(7,AV.val v)],λ⟨k,done,out,v⟩=>[Own.row n 115 3 (q.aO.map ao.cells),Own.box b3 53 [AV.int q.aq,AV.int q.num,AV.int q.kind,iz q.keys,AV.int q.val,bw q.ctx,AV.int q.bE,AV.int q.end_,AV.bool q.over,AV.int q.ar.time,AV.int q.ar.site,oN q.aA,AV.val n],Own.box b6 53 [AV.val (.int .i64 0),AV.val (.int .i64 0),AV.val (.int .i64 0),AV.rows 1 [],AV.val (.int .i64 0),AV.rows 3 [],AV.val (.int .i64 0),AV.val (.int .i64 0),AV.val (.bool false),AV.val (.int .i64 0),AV.val (.int .i64 0),AV.rows 9 [],AV.rows 3 []],Own.row v 128 9 (out.map Answer.cells)],λ⟨k,done,out,v⟩=>mY q.aA x k done out⟩ (λ⟨k,done,out,v⟩=>q.aA.length-k) (0,false,[],.slice (some ⟨kS,0,none⟩) 0 0) U ?aL ?bG;case aL=>exact mY.zero q.aA x
 rintro⟨k,done,out,v⟩ I a w al U;have hp:mY q.aA x k done out:=al;have hk:=hp.hk;have jP:=hp.len;have pD:done.toNat<=1:=by cases done<;>simp
 dsimp only at U;refine ct λI a w U=>?_;refine cz (λae=>?_) λae=>?_
 .refine ax λI a w U=>?_;refine cz (λah=>?_) λah=>?_
  .refine aH λI a w U=>?_;refine U.o (.li [x.cells] uF (.u .nil)) λU=>?_;refine U.ap 3 λv34 a w U=>?_;rw[bV] at U;refine lI λI a w U=>?_;refine U.o (.li [(ab q.aA k).cells] uF (.u .nil)) λU=>?_;refine U.ap 3 λpn a w U=>?_;rw[bV] at U;refine aY λI a w U=>?_;exact U.ag (k+1,true,(out++[x])++[ab q.aA k],pn) (by obtain⟨h1,h2⟩:=ah;subst h1;exact hp.before ae h2)
  refine dI λI a w U=>?_;refine U.o (.li [(ab q.aA k).cells] uF (.u .nil)) λU=>?_;refine U.ap 3 λpn a w U=>?_;rw[bV] at U;refine aY λI a w U=>?_;exact U.ag (k+1,done,out++[ab q.aA k],pn) (hp.step ae (by rcases ah with h|h;exact .inl h;exact .inr om))
 refine wp_exit<|cM<|cM<|fI<|bk ?_;refine St.cut (σ:=Value) (7::(run 6 43 [])) ⟨λv=>[(7,AV.val v)],λv=>[Own.row n 115 3 (q.aO.map ao.cells),Own.box b3 53 [AV.int q.aq,AV.int q.num,AV.int q.kind,iz q.keys,AV.int q.val,bw q.ctx,AV.int q.bE,AV.int q.end_,AV.bool q.over,AV.int q.ar.time,AV.int q.ar.site,oN q.aA,AV.val n],Own.box b6 53 [AV.val (.int .i64 0),AV.val (.int .i64 0),AV.val (.int .i64 0),AV.rows 1 [],AV.val (.int .i64 0),AV.rows 3 [],AV.val (.int .i64 0),AV.val (.int .i64 0),AV.val (.bool false),AV.val (.int .i64 0),AV.val (.int .i64 0),AV.rows 9 [],AV.rows 3 []],Own.row v 128 9 ((c7 q.aA x).map Answer.cells)],λv=>True⟩ U ?Ju ?adb;case Ju=>
  refine aB λI a w U=>?_;refine cz (λaj=>?_) λaj=>?_
  .refine aH λI a w U=>?_;refine U.o (.li [x.cells] uF (.u .nil)) λU=>?_;refine U.ap 3 λJv a w U=>?_;rw[bV] at U;refine ax λI a w U=>?_;first|rw[show out++[x]=c7 q.aA x from by subst aj;exact hp.qU om] at U|rw[show out=c7 q.aA x from by subst aj;exact hp.qT om] at U
   exact U.me Jv fU
  refine zt ?_;first|rw[show out++[x]=c7 q.aA x from by subst aj;exact hp.qU om] at U|rw[show out=c7 q.aA x from by subst aj;exact hp.qT om] at U
  exact U.me v fU
 rintro v I a w al U;refine wp_seq ?_;obtain⟨I,U⟩:=U.fr 3 7;refine aH λI a w U=>?_;try have amD:=U.dZ 3 rfl
 refine rR λI a w U=>?_;refine cz (λaJ=>?_) λaJ=>?_
 .refine wp_seq ?_;obtain⟨I,U⟩:=U.fu 0 12 1;refine aB λI a w U=>?_;refine U.bJ () [] rfl (.cons (.sx 2) .nil) trivial rfl ?_;exact(by unfold mV;dsimp only;rw[if_pos (by simpa using aJ)];rfl)
 refine aH λI a w U=>?_;refine U.eJ [0] (ac9 {q with aA:=c7 q.aA x} n t (λy hy=>(r7.1 hy).elim (λe=>e▸hx) (hg y)) (by show(c7 q.aA x).length<=_;rw[wI];omega) hn) (ai .tt (ai .tt aC)) rfl aM rfl λI a w U=>?_;refine ax λI a w U=>?_;refine U.bJ () [] rfl (.cons (.sx 2) .nil) trivial rfl ?_;exact(by unfold mV;dsimp only;rw[if_neg (by simpa using aJ)];rfl)
def ade {q:Call} {k:Nat} (h:∀a∈q.aA,dF a=true) (hk:q.aA.length<=k):rk q k=j9 q:=by
 have hS:∀key,tD (bL (fy q) key):=λkey=>tM (sq (acc:=[]) rfl h).1 key;have key:∀l:List Answer,(∀a∈l,dF a=true)->(l.filter λa=>!dX (bL (fy q) a.key)&&np a (bL (fy q) a.key)).map (λa=>(⟨a.key,bL (fy q) a.key⟩:ao))=(l.map (ni (fy q))).flatten:=by
  intro l;induction l with
  |nil=>intro _;rfl
  |cons a r ih=>
   intro hl
   have ih:=ih λx hx=>hl x (by simp[hx])
   have ht:=abR (hl a bt) (hS a.key)
   rw[List.map_cons,List.flatten_cons,<-ih]
   unfold ni
   by_cases hp:ck a.bm.ar (bL (fy q) a.key)=true
   .rw[List.filter_cons_of_pos (by rw[ht];exact hp),if_pos hp];rfl
   rw[List.filter_cons_of_neg (by rw[ht];exact hp),if_neg hp];rfl
 unfold rk j9;rw[List.take_of_length_le hk];exact key _ h
def adf {q:Call} {m:az} {t t0:Int} (h:dS q t0) (hv:m.kind=4/\(m.yes=true->m.an.length=1/\(ab m.an 0).key=m.key)) (iH:g9 q.keys m.key=true) (hb:(decide (cB q m.key<0)&&dX m.ar)=true) (ha:pR {q with aA:=c7 q.aA (dK m)}=false):jI q m t={q with aA:=c7 q.aA (dK m)}:=by
 rw[Bool.and_eq_true,decide_eq_true_eq] at hb;have bK:=(ED h iH hb.1).2;unfold jI;rw[if_pos hv,if_pos hb.1,if_pos hb.2];unfold mV;dsimp only;rw[if_pos];have:¬((c7 q.aA (dK m)).length:Int)=q.keys.length:=by simpa[pR] using ha
 rw[wI] at this⊢;omega
def cy.lens {w:aI} (h:cy w):w.calls.length<=20/\∀q∈w.calls,q.aA.length<=3:=⟨(tY.1 h.calls).1,λq hq=>by
 obtain⟨k,hk,rfl⟩:=g7 hq;exact(h.call hk).lens.2.2.2.2.1⟩
def adg (c0:Call) (aq:Int):
 Fn prog 198 [c0.av,AV.ptr [AV.int aq]] (AV.bool (uI aq c0)):=by
 refine Fn.go 12 func198 ntmps198 (λW I a U=>?_);refine lI λI a w U=>?_;refine U.q .T (.cl (Jt c0)) λU=>?_;refine di ?_;exact bF (by unfold uI gP;rw[Bool.and_assoc])
def Jw (l:List Call) (t:Int) (s r z:Value) (aq:Int):
 Fn prog 155 [AV.ptr [AV.int t,AV.val s,AV.val r,fB l,AV.val z],AV.int aq] (AV.int (cA l aq)):=by
 refine Fn.go 11 func155 ntmps155 (λW I a U=>?_);refine zt ?_;refine U.o (yd .tt (by first|exact gn rfl|exact en|exact gC|exact gE)) λU=>?_;refine bO λI a w U=>?_;refine U.o (oJ (ai .tt aC)) λU=>?_;refine U.o (.cl (acW l (uI aq) _ (λq _=>Fn.val (adg q aq)))) λU=>?_;refine bc ?_;rfl
def adh {w:aI} (h:cy w) (x:Int):tF w.calls x=ga w.calls w.calls.length x:=by
 have key:∀k,k<=w.calls.length->(w.calls.take k).foldl (λn q=>if q.aq=x then q.num else n) 0=ga w.calls k x:=by
  intro k;induction k with
  |zero=>intro _;rw[Ho];rfl
  |succ k ih=>
   intro hk
   rw[ez om,List.foldl_append,ih om,rW om]
   show(if(ab w.calls k).aq=x then(ab w.calls k).num else ga w.calls k x)=_
   split
   .rename_i e
    rw[((tY.1 h.calls).2 k om).2.2.1,e,rW om,if_pos e]
   rfl
 have:=key w.calls.length (Nat.le_refl _);rw[List.take_length] at this;exact this
def adi {x:aI} {e:Ev} (hg:cy x) (h:0<=e.aq/\e.aq<=1) {q:Call} (hq:q∈x.calls++[jj x e]):je q.aq:=by
 rcases List.mem_append.1 hq with hq|hq
 .obtain⟨k,hk,rfl⟩:=g7 hq;have:=sd.1 (hg.call hk).aq;unfold je;omega
 obtain rfl:=List.mem_singleton.1 hq;show je e.aq;unfold je;omega
def cy.aA {w:aI} (h:cy w):∀q∈w.calls,q.aA.length<=1048576:=λq hq=>by have:=h.lens.2 q hq;omega
structure mg (w:aI) (q:Call):Prop where
 eO:∀a∈q.aA,a.yes=true->cF w q.aq.toNat a.bm
 ctx:∀a∈q.aA,ck a.bm.ar (bL q.ctx a.key)=false
 full:q.kind≠1->q.aA.length=q.keys.length->∃C:Int->cw,(∀a∈q.aA,∀key,ck (C key) (bL a.bm.aR key)=false)/\(∀a∈q.aA,ck a.bm.ar (C a.key)=false\/(⟨a.key,C a.key⟩:ao)∈q.aO)/\
  ∀d∈q.aO,d.ar=C d.key/\∃u,cF w q.aq.toNat u/\u.bh=d/\∀key,ck (C key) (bL u.aR key)=false
def mg.ext {w x:aI} (h:Ext w x) {q:Call} (g:mg w q):mg x q:=
 ⟨λa ha hy=>h.eO (g.eO a ha hy),g.ctx,λh1 h2=>by
  obtain⟨C,c1,c2,c3⟩:=g.full h1 h2;exact⟨C,c1,c2,λd hd=>let⟨e1,u,e2,e3⟩:=c3 d hd;⟨e1,u,h.eO e2,e3⟩⟩⟩
def eU.ext {w x:aI} (h:Ext w x) {m:az} (hm:bM m=true) (g:eU w m) (h9:m.kind=9->m.aU.toNat<4->yM (sv w m.aU.toNat) m->m.bf<=ep x (cv m.aU.toNat) m.slot.toNat\/yM (sv x m.aU.toNat) m):eU x m where
 k1 e:=by
  obtain⟨q,hq,a1,a2,a3,a4,a5,a6,a7⟩:=g.k1 e;obtain⟨p,hp,s1,s2,s3,s4,s5,s6⟩:=h.calls q hq;exact⟨p,hp,by rw[s1];exact a1,by rw[s2];exact a2,by rw[s1];exact a3,by rw[s3];exact a4,by rw[s4];exact a5,by rw[s5];exact a6,by rw[s6];exact a7⟩
 k2 e:=by
  obtain⟨v,a1,a2⟩:=g.k2 e;exact⟨v,h.eO a1,a2⟩
 k3 e:=by
  obtain⟨q,hq,a1,a2,a3⟩:=g.k3 e;obtain⟨p,hp,s1,s2,s3,s4,s5,s6⟩:=h.calls q hq;exact⟨p,hp,by rw[s1];exact a1,by rw[s2];exact a2,by rw[s1];exact a3⟩
 k4 e:=by
  obtain⟨q,hq,a1,a2,a3,a4⟩:=g.k4 e;obtain⟨p,hp,s1,s2,s3,s4,s5,s6⟩:=h.calls q hq;refine⟨p,hp,by rw[s1];exact a1,by rw[s2];exact a2,λhy=>?_,λhy=>?_⟩
  .obtain⟨v,b1,b2,b3,b4,b5⟩:=a3 hy;exact⟨v,b1,b2,by rw[s1];exact h.eO b3,by rw[s6];exact b4,b5⟩
  rw[s6];exact a4 hy
 k5 e:=by
  obtain⟨v,a1,a2,a3⟩:=g.k5 e;exact⟨v,a1,h.eO a2,a3⟩
 k6 e:=by
  obtain⟨v,a1,a2⟩:=g.k6 e;exact⟨v,a1,h.cont a2⟩
 k8 e:=by
  obtain⟨v,a1,a2⟩:=g.k8 e;exact⟨v,a1,h.eO a2⟩
 k9 e:=by
  obtain⟨hl,a|a⟩:=g.k9 e
  .exact⟨hl,.inl (Int.le_trans a (h.ep _ (pQ hl) _ (OC hm)))⟩
  exact⟨hl,h9 e hl a⟩
 kV e:=⟨(g.kV e).1,Int.le_trans (g.kV e).2 (h.ep _ (g.kV e).1 _ (OC hm))⟩
def SA {q:Call} (h:∀a∈q.aA,dF a=true) (key:Int):bL (fy q) key=j7 q.aA key:=by
 show bL (q.aA.foldl l4 []) key=_;rw[(sq (acc:=[]) rfl h).2 key];show dA fK _=_;exact pS (El h key)
def EP (q:Call) (time:Int) (ht:time<=4611686018427387904) (vn:q.aA.length<=1048576):
 Fn prog 90 [q.av,AV.int time] (AV.bool (fR q time)):=by
 refine Fn.go 240 func90 ntmps90 (λW I a U=>?_);have lens:q.keys.length<=9223372036854775807/\q.aA.length<=9223372036854775807/\q.aO.length<=9223372036854775807:=⟨U.ln 0 3,U.ln 0 11,U.ln 0 12⟩;refine bz λI a w U=>?_;refine U.o (.cl (jg ..)) λU=>?_;refine bz λI a w U=>?_;refine U.q .F (.cl (jg ..)) λU=>?_;refine bO λI a w U=>?_;refine U.q .F (.cl (jg ..)) λU=>?_;refine bz λI a w U=>?_;refine U.q .F (.cl (X5 ..)) λU=>?_;refine bO λI a w U=>?_;refine U.q .F (.cl (jg ..)) λU=>?_;refine bO λI a w U=>?_;refine U.q .F (.cl (pI ..)) λU=>?_;refine bO λI a w U=>?_;refine U.q .F (.cl (pI ..)) λU=>?_;refine dI λI a w U=>?_;refine U.q .F (.cl (jg ..)) λU=>?_;refine aB λI a w U=>?_;refine U.cd (λae=>?_) λae=>?_
 .replace ae:qM q time=false:=by unfold qM;rw[ae];rfl
  refine bc ?_;exact bF (by rw[xk];rw[ae];rfl)
 replace ae:qM q time=true:=by unfold qM;rw[ae];rfl
 refine uD λI a w U=>?_;refine U.q .T (lz .ag .ag (λhg=>by have:=PD ae;omega)) λU=>?_;refine th λI a w U=>?_;refine U.q .F2 (.bd ic aW.nil) λU=>?_;refine U.q .F2 (rJ [_,_] [_,_] mD rfl rfl .ag .ag) λU=>?_;refine dI λI a w U=>?_;refine U.q .F (.cl (OV ..)) λU=>?_;refine AO λI a w U=>?_;refine U.cd (λah=>?_) λah=>?_
 .rw[DE] at ah;replace ah:yJ q=false:=by unfold yJ;rw[ah];rfl
  refine bc ?_;exact bF (by rw[xk];rw[ae,ah];rfl)
 rw[DE] at ah;replace ah:yJ q=true:=by unfold yJ;rw[ah];rfl
 refine ax λI a w U=>?_;refine St.lo (σ:=Nat) (run 2 4 (run 46 98 [])) ⟨λk=>[(5,AV.int k)],λk=>[],λk=>k<=q.aA.length/\∀i,i<k->(va q) i=true⟩ (λk=>q.aA.length-k) 0 U ?aL ?bG;case aL=>exact⟨Nat.zero_le _,λi hi=>by omega⟩
 rintro k I a w al U;obtain⟨rV,aT⟩:=al;refine ct λI a w U=>?_;refine cz (λaj=>?_) λaj=>?_
 .refine zt ?_;refine U.dk ?_;refine fD ?_;refine .o (.c1 (X2 ..)) ?_;refine lh ?_;refine .q .F (.cl (Ql ..)) ?_;refine nd ?_;refine gZ ?_;refine .nil ?_;intro I a w U;refine bk ?_;refine U.cd (λaJ=>?_) λaJ=>?_
  .rw[Qo] at aJ;replace aJ:=nt aJ;refine bc ?_;exact bF (by rw[xk];rw[fN (f:=va q) aj aJ];simp)
  rw[Qo] at aJ;replace aJ:=nf aJ;refine aN λI a w U=>?_;exact U.ag (k+1) (⟨by omega,gO aT aJ⟩)
 refine zt ?_;refine AQ λI a w U=>?_;refine U.cd (λaP=>?_) λaP=>?_
 .rw[OO] at aP;replace aP:=nt aP;refine bc ?_;exact bF (by rw[xk];rw[aP];simp)
 rw[OO] at aP;replace aP:=nf aP;refine ax λI a w U=>?_;refine St.lo (σ:=Nat) (4::(run 2 6 (run 34 157 []))) ⟨λk2=>[(6,AV.int k2)],λk2=>[],λk2=>k2<=q.aO.length/\∀i,i<k2->(uU q) i=true⟩ (λk2=>q.aO.length-k2) 0 U ?ei ?jK;case ei=>exact⟨Nat.zero_le _,λi hi=>by omega⟩
 rintro k2 I a w al U;obtain⟨zn,jL⟩:=al;refine ct λI a w U=>?_;refine cz (λbn=>?_) λbn=>?_
 .refine zt ?_;refine U.dk ?_;refine kJ ?_;refine .o (.c2 (DV ..)) ?_;refine aX ?_;refine .nil ?_;intro I a w U;refine bk<|wp_seq<|U.dk ?_;refine gZ ?_;refine .q .F ((by first|exact dW ie fF .ag .ag (λhg=>by have h0:0<=cB q (ab q.aO k2).key:=(by simpa using hg);have:=vf h0;omega)|exact fe ie fF .ag .ag (λhg=>by have h0:0<=cB q (ab q.aO k2).key:=(by simpa using hg);have:=vf h0;omega)|exact fm ie fF .ag .ag (λhg=>by have h0:0<=cB q (ab q.aO k2).key:=(by simpa using hg);have:=vf h0;omega))) ?_;refine yv ?_;refine .q .F (.cl (wx ..)) ?_;refine cj ?_;refine .nil ?_;intro I a w U;refine bk ?_;refine U.cd (λbl=>?_) λbl=>?_
  .rw[PC] at bl;replace bl:=nt bl;refine bc ?_;exact bF (by rw[xk];rw[fN (f:=uU q) bn bl];simp)
  rw[PC] at bl;replace bl:=nf bl;refine aN λI a w U=>?_;exact U.ag (k2+1) (⟨by omega,gO jL bl⟩)
 refine zt ?_;refine aN λI a w U=>?_;refine cz (λcm=>?_) λcm=>?_
 .refine aH λI a w U=>?_;refine U.o (.bd ic aW.nil) λU=>?_;refine U.o (mq [_,_] [_,_] mD rfl rfl .tt .tt) λU=>?_;refine bc ?_;exact bF (by rw[xk];rw[ae,ah,fJ aT om,aP,fJ jL om,Dv];unfold DC;rw[if_pos cm];rfl)
 refine lI λI a w U=>?_;refine U.q .T (lz .ag .c (λhg=>by have:=PD ae;omega)) λU=>?_;refine U.q .T .mv λU=>?_;refine U.q .T (.cl (jg ..)) λU=>?_;refine Wg λI a w U=>?_;refine U.q .T2 (.cl (wv ..)) λU=>?_;refine G1 λI a w U=>?_;refine U.rt ?_;exact bF (by rw[xk];rw[ae,ah,fJ aT om,aP,fJ jL om];unfold DC;rw[if_neg cm];rfl)
end Go.Proofs.YtdanidpleofjgaaGreat
