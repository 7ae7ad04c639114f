/- Part 34: contracts of functions, plain facts. -/
import Derived.Test.YtldbakcpcfdlaaaGreatA30
set_option linter.all false
set_option maxRecDepth 100000
set_option maxHeartbeats 4000000
namespace Go.Proofs.YtldbakcpcfdlaaaGreat
open Go Go.RowKit Tryz
attribute [local irreducible] wpList Code.wp Ok
def rm (w:aJ) (e:Ev):aJ×Bool:=if w.time<99999/\(eU w e).2=true then((eU w e).1,true) else(w,false)
def acz (l:List aw) (h:l.length<=1048576) (hd:∀m∈l,iY m):
 gO prog 135 [cU l] 108 15 (l.map aw.cells):=by
 refine gO.intro 19 func135 rfl ntmps135 rfl aP (λW I a U=>?_);have U:=U.fC (sz:=15) 108;refine cn λI a w U=>?_;refine St.lo (σ:=Nat×Value) (3::(5::(run 10 8 []))) ⟨λ⟨k,v⟩=>[(8,AV.int k),(3,AV.val v)],λ⟨k,v⟩=>[Own.row v 108 15 ((l.take k).map aw.cells)],λ⟨k,v⟩=>k<=l.length⟩ (λ⟨k,v⟩=>l.length-k) (0,.slice none 0 0) U ?aH ?bx;case aH=>exact Nat.zero_le _
 rintro⟨k,v⟩ I a w al U;have hk:k<=l.length:=al;dsimp only at U;refine ao λI a w U=>?_;refine cz (λae=>?_) λae=>?_
 .refine aF λI a w U=>?_;refine U.alloc rfl cV dr λb5 I a w U=>?_;refine ao λI a w U=>?_;obtain⟨I,U⟩:=U.fb 1 5;refine aF λI a w U=>?_;refine U.o (.c1 (yn (ab l k) (hd _ (bB ae)))) λU=>?_;refine U.o (.li [(ab l k).cells] fo (.u .nil)) λU=>?_;refine U.ap 0 λFb a w U=>?_;rw[bN,<-dO ae] at U;refine aM λI a w U=>?_;have U:=U.drop 1;exact U.ag (k+1,Fb) (ae)
 refine zt ?_;refine aq λI a w U=>?_;exact U.nO (r:=2) 0 rfl rfl rfl (by rw[List.take_of_length_le om])
def acA {w:aJ} (h:gE w=true) (e:Ev):gE (rm w e).1=true:=by
 unfold rm;split
 .rename_i hc;refine mL.2 ⟨O1 (mL.1 h).1 e hc.2,?_⟩;show(eU w e).1.time<=99999;rw[Gz];omega
 exact h
def acB (site:Nat) (h4:site<4):
 Fn prog 155 [AV.int (site:Int)] ((yw site).av):=by
 refine Fn.go 30 func155 ntmps155 (λW I a U=>?_);have DK:cQ (site:Int)=true:=mI.2 om;refine sr<|U.alloc rfl ck c9 λb2 I a w U=>?_;refine bw λI a w U=>?_;refine U.o (.c1 (px ..)) λU=>?_;refine ao λI a w U=>?_;refine U.cd (λae=>?_) λae=>?_
 .exfalso;rw[DK] at ae;cases ae;skip
 refine bw λI a w U=>?_;refine U.o (.bd Kn (.k (.k aT.nil))) λU=>?_;refine U.alloc rfl ck Kn λb3 I a w U=>?_;refine ao λI a w U=>?_;have U:=U.fC (sz:=2) 97;refine ao λI a w U=>?_;refine St.lo (σ:=Nat×Value) (run 2 4 (run 17 12 [])) ⟨λ⟨k,v⟩=>[(4,AV.int k)],λ⟨k,v⟩=>[Own.box b2 95 [AV.val (.int .i64 0),AV.val (.bool false),AV.rows 2 [],AV.rows 7 [],AV.rows 7 [],AV.rows 3 [],AV.rows 3 []],Own.box b3 95 [AV.int (site:Int),AV.bool true,AV.val v,AV.val (.slice none 0 0),AV.val (.slice none 0 0),AV.val (.slice none 0 0),AV.val (.slice none 0 0)],Own.row v 97 2 ((rj site k).map cI.cells)],λ⟨k,v⟩=>k<=3⟩ (λ⟨k,v⟩=>3-k) (0,.slice none 0 0) U ?aH ?bx;case aH=>exact Nat.zero_le _
 rintro⟨k,v⟩ I a w al U;have hk:k<=3:=al;dsimp only at U;refine aq λI a w U=>?_;refine cz (λah=>?_) λah=>?_
 .refine zt ?_;refine U.o (.bd mr aT.nil) λU=>?_;refine U.alloc rfl dR mr λb5 I a w U=>?_;refine aF λI a w U=>?_;refine U.o (rC .tt .c (λ_=>by omega)) λU=>?_;refine U.m λU=>?_;refine U.o (rC .tt .c (λ_=>by omega)) λU=>?_;refine ao λI a w U=>?_;refine cz (λaj=>?_) λaj=>?_
  .refine St.region ?_;refine U.o (.bd mr (.k (.k aT.nil))) λU=>?_;refine bj λI a w U=>?_;refine U.o (.li [cI.cells ⟨1,1⟩] Ko (.u .nil)) λU=>?_;refine U.append 2 rfl fq dR rfl .tt .r rfl (by rw[List.length_map,Oa];simp;omega) λHE a w U=>?_;refine U.o .fv λU=>?_;try have acC:=U.dK 2 rfl
   refine aV λI a w U=>?_;have U:=U.drop 3;rw[bN,aaj (by simpa using aj)] at U;exact U.ag (k+1,HE) (by show k+1<=3;omega)
  refine bc λI a w U=>?_;refine U.o (.li [cI.cells ⟨0,0⟩] Ko (.u .nil)) λU=>?_;refine U.append 2 rfl fq dR rfl .tt .r rfl (by rw[List.length_map,Oa];simp;omega) λHE a w U=>?_;refine U.o .fv λU=>?_;try have acC:=U.dK 2 rfl
  refine aV λI a w U=>?_;have U:=U.drop 3;rw[bN,aak (by simpa using aj)] at U;exact U.ag (k+1,HE) (by show k+1<=3;omega)
 refine wp_exit<|cm<|cm<|dS<|ba<|wp_seq ?_;obtain⟨I,U⟩:=U.fu 2 2 1;have U:=U.qf (q:=3) 1 rfl rfl (fA 7 _);have U:=U.qf (q:=4) 1 rfl rfl (fA 7 _);have U:=U.qf (q:=5) 1 rfl rfl (fA 3 _);have U:=U.qf (q:=6) 1 rfl rfl (fA 3 _);refine aq λI a w U=>?_;refine U.ret rfl (.cons (.sx 0) aX.nil) ?_;have wz:k=3:=by omega
 subst wz;rfl
def acD (s:Server) (slot:Int) (hg:bA s):
 Fn prog 238 [s.av,AV.int slot] (AV.c6 [(dT s slot).1.av,(dT s slot).2.1.av,AV.bool (dT s slot).2.2]):=by
 refine Fn.go 59 func238 ntmps238 (λW I a U=>?_);have al:=iL.2 hg;have cK:=hg.ok;have gF:=hg.small;have h3:=hg.aN;have PB:aQ slot 0 2=true->(ab s.aN slot.toNat).bU<=9999:=λhi=>by have h9:=hg.cH _ (bB (l:=s.aN) (k:=slot.toNat) (by simp[aQ] at hi;omega));exact(tM.1 h9).2.1
 have e9:∀x,x=cI.cells ⟨(ab s.aN slot.toNat).bU+1,2⟩->(List.map cI.cells s.aN).set slot.toNat x=List.map cI.cells (oe s slot).aN:=λx h=>by rw[h];exact List.map_set.symm
 refine bw λI a w U=>?_;refine U.alloc rfl ck c9 λb4 I a w U=>U.alloc rfl cV dr λb5 I a w U=>?_;refine aF λI a w U=>?_;refine U.o (.c1 (ui ..)) λU=>?_;refine ao λI a w U=>?_;refine U.cd (λae=>?_) λae=>?_
 .exfalso;rw[al] at ae;cases ae;skip
 refine bw λI a w U=>?_;refine U.bz [] (ym s gF) (ai .tt aB) rfl aO rfl λ⟨vS,vV,vW,vO,vK⟩ I a w pP U=>?_;unfold Server.Mn at U;have U:=U.nf;refine U.alloc rfl ck c9 λb7 I a w U=>?_;refine U.sb 7 λU=>?_;refine wpList_nil ?_;obtain⟨I,U⟩:=U.fu 3 3 7;obtain⟨I,U⟩:=U.fu 4 4 7;obtain⟨I,U⟩:=U.fu 5 5 7;obtain⟨I,U⟩:=U.fu 6 6 7;have U:=U.nf;refine bK λI a w U=>?_;refine U.q .F (.cl (ij ..)) λU=>?_;refine dp λI a w U=>?_;refine U.q .F ((by first|exact dE fq dR .ag .ag (λhg=>by simp[aQ] at hg;omega)|exact eG fq dR .ag .ag (λhg=>by simp[aQ] at hg;omega)|exact eM fq dR .ag .ag (λhg=>by simp[aQ] at hg;omega))) λU=>?_;refine j3 λI a w U=>?_;refine U.q .F ((by first|exact dE fq dR .ag .ag (λhg=>by simp[aQ] at hg;omega)|exact eG fq dR .ag .ag (λhg=>by simp[aQ] at hg;omega)|exact eM fq dR .ag .ag (λhg=>by simp[aQ] at hg;omega))) λU=>?_;refine aV λI a w U=>?_;refine U.cd (λah=>?_) λah=>?_
 .rw[O2 PB] at ah;replace ah:=nt ah;obtain⟨I,U⟩:=U.fu 2 2 7;refine sr<|U.o (.ls 7) λU=>?_;refine U.o (.bd dr aT.nil) λU=>?_;refine aM λI a w U=>?_;refine U.ret rfl (.cons (.sx 0) (.cons (.sx 1) (.cons (.t rfl) aX.nil))) ?_;exact(by unfold dT;rw[ah];rfl)
 rw[O2 PB] at ah;replace ah:=nf ah;have Xy:=ye ah;have Xz:=tM.1 (Bh hg (i:=slot.toNat) om);have ua:=BD hg ah;refine zt ?_;obtain⟨bS,cS,rfl⟩:=U.gv 2 rfl gG;refine U.dt 12 ?_;simp only[TD];refine aW ?_;refine .o (.lb 7) ?_;refine mn ?_;refine .o (.bd mr (.k (.k aT.nil))) ?_;refine .o (fj fq dR .tt .tt (λ_=>by simp only[List.length_map];omega)) ?_;refine .nil ?_;intro I a w U;refine U.jf 2 dR .tt .tt rfl (by exact dL om) rfl rfl λa w U=>?_;refine zt ?_;rw[e9] at U;rotate_left
 .rfl
 obtain⟨I,U⟩:=U.fu 2 2 7;have U:=U.nf;refine U.dt 4 ?_;simp only[TD];refine .o (.ls 7)<|.o (.ls 7) ?_;refine aW ?_;refine .o (cq (OU (oe s slot) slot ua.small ua.site ua.aN om) (ai (.t rfl) (ai (.t rfl) aB))) ?_;refine .nil ?_;intro I a w U;refine aM λI a w U=>?_;refine U.ret rfl (.cons (.sx 0) (.cons (.sx 1) (.cons (.t rfl) aX.nil))) ?_;exact(by unfold dT;rw[ah];rfl)
def acE (s:Server) (hg:bA s):
 Fn prog 237 [s.av] (cU (kd s)):=by
 refine Fn.go 129 func237 ntmps237 (λW I a U=>?_);have U:=U.fC (sz:=15) 108;have U:=U.fC (sz:=3) 125;have al:=iL.2 hg;have cK:=hg.ok;have gF:=hg.small;have lens:s.aN.length<=9223372036854775807/\s.ar.length<=9223372036854775807/\s.waits.length<=9223372036854775807/\s.aE.length<=9223372036854775807/\s.bn.length<=9223372036854775807:=⟨U.ln 0 2,U.ln 0 3,U.ln 0 4,U.ln 0 5,U.ln 0 6⟩;have h3:=hg.aN;have vD:=fV hg.ar;have jM:=fV hg.waits;have iO:=gZ hg.aE;have iN:∀v∈s.waits,v.aS.length<=6:=λv hv=>dY (jL (gP hg.waits v hv)).2.2;have YS:=Fj hg.site;refine bc λI a w U=>?_;refine U.o (.c1 (ui s)) λU=>?_;refine iU λI a w U=>?_;refine U.cd (λae=>?_) λae=>?_
 .rw[Bm] at ae;replace ae:=nt ae;refine ao λI a w U=>?_;refine U.ret rfl (.cons (.nil (sz:=15) rfl) aX.nil) ?_;exact(by rw[al,Bool.true_and] at ae;rw[Oo ae];rfl)
 rw[Bm] at ae;replace ae:=nf ae;rw[Bool.and_eq_true] at ae;refine cn λI a w U=>?_;refine St.lo (σ:=Nat×Value) (run 3 3 (run 15 27 [])) ⟨λ⟨n,v⟩=>[(27,AV.int n),(3,AV.val v)],λ⟨n,v⟩=>[Own.row v 108 15 ((mK s n).map aw.cells),Own.row (.slice none 0 0) 125 3 ([])],λ⟨n,v⟩=>n<=s.aN.length⟩ (λ⟨n,v⟩=>s.aN.length-n) (0,(.slice none 0 0)) U ?aH ?bx;case aH=>exact Nat.zero_le _
 rintro⟨n,v⟩ I a w al U;have hn:n<=s.aN.length:=al;dsimp only at U;refine ao λI a w U=>?_;refine cz (λah=>?_) λah=>?_
 .refine bc λI a w U=>?_;refine U.alloc rfl dR mr λb5 I a w U=>?_;refine aq λI a w U=>?_;obtain⟨I,U⟩:=U.fb 2 5;refine aM λI a w U=>?_;refine cz (λaj=>?_) λaj=>?_
  .refine bc λI a w U=>?_;refine U.o (cq (OU s (n:Int) gF hg.site h3 om) (ai (.t rfl) (ai (.t rfl) aB))) λU=>?_;refine U.o (.li [(gj s (n:Int)).cells] fo (.u .nil)) λU=>?_;refine U.append 0 rfl eA cV rfl .tt .r rfl (by have:=FA s n;simp;omega) λMi a w U=>?_;rw[bN,Np (by simpa using aj)] at U;refine aM λI a w U=>?_;have U:=U.drop 2;exact U.ag (n+1,Mi) (ah)
  refine aq λI a w U=>?_;have U:=U.drop 2;rw[Nq (by simpa using aj)] at U;exact U.ag (n+1,v) (ah)
 refine wp_exit<|cm<|cm<|dS<|ba<|wp_seq ?_;rw[Nw om] at U;refine aF λI a w U=>?_;refine U.o (.c1 (yb _)) λU=>U.o .D0 λU=>?_;refine U.o (mS .c .tt (λ_=>by omega)) λU=>?_;refine ao λI a w U=>?_;rw[show 2*(1-ct s.site)=2-2*ct s.site by omega] at U;refine aV λI a w U=>?_;refine St.lo (σ:=Nat×Value) (3::(run 3 8 (run 35 50 []))) ⟨λ⟨k,v⟩=>[(50,AV.int k),(3,AV.val v)],λ⟨k,v⟩=>[Own.row v 108 15 ((g7 s k).map aw.cells),Own.row (.slice none 0 0) 125 3 ([])],λ⟨k,v⟩=>k<=s.aE.length⟩ (λ⟨k,v⟩=>s.aE.length-k) (0,v) U ?dC ?iJ;case dC=>exact Nat.zero_le _
 rintro⟨k,v⟩ I a w al U;have hk:k<=s.aE.length:=al;dsimp only at U;refine ao λI a w U=>?_;refine cz (λaG=>?_) λaG=>?_
 .refine aF λI a w U=>?_;refine U.alloc rfl cx ez λb8 I a w U=>?_;refine ao λI a w U=>?_;obtain⟨I,U⟩:=U.fb 2 8;refine bc λI a w U=>?_;refine U.o (.c2 (vN s (ab s.aE k).key h3)) λU=>?_;refine ao λI a w U=>?_;refine U.cd (λaK=>?_) λaK=>?_
  .replace aK:=nt aK;refine zt ?_;refine aq λI a w U=>?_;have U:=U.drop 2;rw[WZ aG aK (Ve hg (bB aG))] at U;exact U.ag (k+1,v) (aG)
  replace aK:=nf aK;refine zt ?_;obtain⟨vd,pR,yz,mH⟩:=Nt hg (bB aG);obtain⟨m1,wE,yK⟩:=ZF pR;refine U.da 9 ?_;simp only[TD];refine eP ?_;refine .o (.cl (pQ s.ar (ab s.aE k))) ?_;refine cg ?_;refine fk.alloc bL dy<|.nil ?_;intro I a w U;obtain⟨b9,U⟩:=U.rF (d:=9) rfl;refine ao λI a w U=>?_;obtain⟨I,U⟩:=U.fb 3 9;rw[yK] at U;rw[show g7 s k=g7 s k++(jy s (ab s.aE k)).take 0 from by simp] at U;refine aq λI a w U=>?_;refine St.lo (σ:=Nat×Int×Value) (3::(10::(run 16 68 []))) ⟨λ⟨j,t,v2⟩=>[(10,AV.int t),(3,AV.val v2)],λ⟨j,t,v2⟩=>[Own.row v2 108 15 ((g7 s k++(jy s (ab s.aE k)).take j).map aw.cells),Own.row (.slice none 0 0) 125 3 ([]),Own.gone,Own.gone],λ⟨j,t,v2⟩=>j<=2/\t=2-2*ct s.site+(j:Int)⟩ (λ⟨j,t,v2⟩=>2-j) (0,2-2*ct s.site,v) U ?fU ?kT;case fU=>exact⟨Nat.zero_le _,by simp⟩
  rintro⟨j,t,v2⟩ I a w al U;obtain⟨hj,rfl⟩:=al;dsimp only at U;refine aV λI a w U=>?_;refine cz (λbh=>?_) λbh=>?_
  .refine bK λI a w U=>?_;refine U.o (.li [vd.cells] iy (.u .nil)) λU=>?_;refine U.o (.bd dr (.k (.k (.k (.k aT.nil))))) λU=>?_;refine U.o (.c1 (yn {bW with kind:=5,aY:=s.site,to:=2-2*ct s.site+(j:Int),ar:=[vd]} (Yx (gF.2.1.2 vd mH)))) λU=>?_;refine U.o (.li [({bW with kind:=5,aY:=s.site,to:=2-2*ct s.site+(j:Int),ar:=[vd]}:aw).cells] fo (.u .nil)) λU=>?_;refine U.append 0 rfl eA cV rfl .tt .r rfl (by have:=wm s k hk;simp;omega) λEZ a w U=>?_;rw[bN,Nx (AN aK).2 pR om] at U;refine aV λI a w U=>?_;exact U.ag (j+1,2-2*ct s.site+(j:Int)+1,EZ) (⟨by show j+1<=2;omega,by simp;omega⟩)
  refine zt ?_;refine aq λI a w U=>?_;have U:=U.drop 2;rw[Ny aG om] at U;exact U.ag (k+1,v2) (aG)
 refine zt ?_;refine ao λI a w U=>?_;rw[NQ om] at U;refine aV λI a w U=>?_;refine St.lo (σ:=Nat×Value×Value) (3::(11::(13::(15::(run 40 88 []))))) ⟨λ⟨i,v,u⟩=>[(88,AV.int i),(3,AV.val v),(11,AV.val u)],λ⟨i,v,u⟩=>[Own.row v 108 15 ((lW s (lr s i)).map aw.cells),Own.row u 125 3 ((lr s i).map an.cells)],λ⟨i,v,u⟩=>i<=s.waits.length⟩ (λ⟨i,v,u⟩=>s.waits.length-i) (0,v,(.slice none 0 0)) U ?ue ?Gg;case ue=>exact Nat.zero_le _
 rintro⟨i,v,u⟩ I a w al U;have hi:i<=s.waits.length:=al;dsimp only at U;refine ao λI a w U=>?_;refine cz (λaZ=>?_) λaZ=>?_
 .refine aF λI a w U=>?_;refine U.alloc rfl bL dy λBR I a w U=>?_;refine ao λI a w U=>?_;obtain⟨I,U⟩:=U.fb 2 13;refine aV λI a w U=>?_;refine St.lo (σ:=Nat×Value×Value) (3::(11::(15::(run 32 95 [])))) ⟨λ⟨j,v2,u2⟩=>[(95,AV.int j),(3,AV.val v2),(11,AV.val u2)],λ⟨j,v2,u2⟩=>[Own.row v2 108 15 ((lW s (ir s i j)).map aw.cells),Own.row u2 125 3 ((ir s i j).map an.cells),Own.gone],λ⟨j,v2,u2⟩=>j<=(ab s.waits i).aS.length⟩ (λ⟨j,v2,u2⟩=>(ab s.waits i).aS.length-j) (0,v,u) U ?Gh ?YW;case Gh=>exact Nat.zero_le _
  rintro⟨j,v2,u2⟩ I a w al U;have hj:j<=(ab s.waits i).aS.length:=al;have YX:=iN _ (bB aZ);dsimp only at U;refine ao λI a w U=>?_;refine cz (λbT=>?_) λbT=>?_
  .refine aF λI a w U=>?_;refine U.alloc rfl cx ez λFv I a w U=>?_;refine ao λI a w U=>?_;obtain⟨I,U⟩:=U.fb 3 15;refine aF λI a w U=>?_;refine U.o (.c2 (N6 s (ab (ab s.waits i).aS j))) λU=>?_;refine bj λI a w U=>?_;refine U.q .T (z6 1 (ai .ag (ai .ag aB)) rfl (yh (ir s i j) (ab (ab s.waits i).aS j)) (λ_ _ _ h=>h)) λU=>?_;refine aq λI a w U=>?_;refine U.cd (λcO=>?_) λcO=>?_
   .rw[L5] at cO;refine aF λI a w U=>?_;refine U.o (.li [(ab (ab s.waits i).aS j).cells] eJ (.u .nil)) λU=>?_;refine U.append 1 rfl c4 cx rfl .tt .r rfl (by have:=wq iN i hi;have:=yy s i j;have:=iN _ (bB aZ);simp;omega) λacF a w U=>?_;rw[bN,show ir s i j++[(ab (ab s.waits i).aS j)]=ir s i (j+1) from by rw[wo bT,Bx cO]] at U;refine ao λI a w U=>?_;refine U.dt 12 ?_;simp only[TD];refine eP ?_;refine .o (.c1 (Fk _ hg.site)) ?_;refine dq ?_;refine .o (.bd dr (.k (.k (.k (.k (.t aT.nil)))))) ?_;refine .o (.li [(kt s (ab (ab s.waits i).aS j)).cells] fo (.u .nil)) ?_;refine .nil ?_;intro I a w U;refine U.append 0 rfl eA cV rfl .tt .r rfl (by have:=wq iN i hi;have:=yy s i j;have:=iN _ (bB aZ);have:=wm s _ (Nat.le_refl s.aE.length);simp[lW];omega) λacG a w U=>?_;rw[bN,NP,show ir s i j++[(ab (ab s.waits i).aS j)]=ir s i (j+1) from by rw[wo bT,Bx cO]] at U;refine aM λI a w U=>?_;have U:=U.drop 3;exact U.ag (j+1,acG,acF) (bT)
   rw[L5] at cO;refine aq λI a w U=>?_;have U:=U.drop 3;rw[show ir s i j=ir s i (j+1) from by rw[wo bT,Nv cO]] at U;exact U.ag (j+1,v2,u2) (bT)
  refine zt ?_;refine aq λI a w U=>?_;have U:=U.drop 2;rw[FB aZ om] at U;exact U.ag (i+1,v2,u2) (aZ)
 refine wp_exit<|cm<|cm<|dS<|ba<|wp_seq ?_;rw[FC s om,Gf ae.2 h3] at U;obtain⟨I,U⟩:=U.fr 0 3;refine dh ?_;rfl
def aJ.PC (w:aJ) (r:Value×Value×Value×Value):AV:=.agg [.int w.time,.val r.1,.val r.2.1,.val r.2.2.1,.val r.2.2.2]
def acH (s:Server) (m:aw) (hg:bA s) (hm:bQ m=true):
 Fn prog 288 [s.av,m.av] (AV.c6 [(gq s m).1.av,cU (gq s m).2]):=by
 refine Fn.go 38 func288 ntmps288 (λW I a U=>?_);have al:=iL.2 hg;have gF:=hg.small;refine aF λI a w U=>?_;refine U.alloc rfl ck c9 λb4 I a w U=>?_;refine aF λI a w U=>?_;refine U.o (.c1 (ui s)) λU=>?_;refine ao λI a w U=>?_;refine U.cd (λae=>?_) λae=>?_
 .exfalso;rw[al] at ae;cases ae;skip
 refine bK λI a w U=>?_;refine U.q .F (cq (GB m (by have:=se hm;unfold iQ;omega) (by have:=se hm;unfold iQ;omega)) (ai .ag aB)) λU=>?_;refine m4 λI a w U=>?_;refine U.cd (λah=>?_) λah=>?_
 .rw[Bl] at ah;replace ah:=nt ah;refine bw λI a w U=>?_;refine U.o (.c1 (qR s gF)) λU=>?_;refine aq λI a w U=>?_;refine U.ret rfl (.cons (.sx 0) (.cons (.nil (sz:=15) rfl) aX.nil)) ?_;exact(by unfold gq;rw[ah];rfl)
 rw[Bl] at ah;replace ah:=nf ah;have hu:=Gd hg hm (E4 ah).1;refine aF λI a w U=>?_;refine U.o (.c2 (aaQ s m hg hm)) λU=>?_;refine bc λI a w U=>?_;refine U.alloc rfl ck c9 λb6 I a w U=>?_;refine U.sb 1 λU=>?_;obtain⟨I,U⟩:=U.fb 1 6;refine aF λI a w U=>?_;refine U.o (.c1 (qR (en s m).1 hu.small)) λU=>?_;refine aM λI a w U=>?_;refine U.ret rfl (.cons (.sx 0) (.cons .x aX.nil)) ?_;exact(by unfold gq;rw[ah,if_pos rfl];rfl)
def acI:
 Fn prog 80 [] (gC.av):=by
 refine Fn.go 27 func80 ntmps80 (λW I a U=>?_);refine sr<|U.alloc rfl eE eQ λb0 I a w U=>?_;refine zt ?_;refine U.o (.bd xC aT.nil) λU=>?_;refine U.alloc rfl eE xC λb1 I a w U=>?_;refine ao λI a w U=>?_;have U:=U.fC (sz:=7) 95;have U:=U.fC (sz:=1) 40;refine ao λI a w U=>?_;refine St.lo (σ:=Nat×Value) (2::(run 11 5 [])) ⟨λ⟨k,p⟩=>[(2,AV.int k)],λ⟨k,p⟩=>[Own.box b0 28 [AV.val (.int .i64 0),AV.rows 7 [],AV.rows 15 [],AV.rows 13 [],AV.rows 1 []],Own.box b1 28 [AV.int 0,AV.val p,AV.val (.slice none 0 0),AV.val (.slice none 0 0),AV.val (.slice none 0 0)],Own.row p 95 7 ((yS k).map Server.cells),Own.row (.slice none 0 0) 40 1 []],λ⟨k,p⟩=>k<=4⟩ (λ⟨k,p⟩=>4-k) (0,.slice none 0 0) U ?aH ?bx;case aH=>exact Nat.zero_le _
 rintro⟨k,p⟩ I a w al U;have hk:k<=4:=al;dsimp only at U;refine aq λI a w U=>?_;refine cz (λae=>?_) λae=>?_
 .refine zt ?_;refine U.dt 5 ?_;simp only[TD];refine dw ?_;refine .o (cq (acB k om) (ai (.t rfl) aB)) ?_;refine .o (.li [(yw k).cells] Aj (.u .nil)) ?_;refine .nil ?_;intro I a w U;refine U.append 2 rfl nQ ck rfl .tt .r rfl (by rw[List.length_map,O7];simp;omega) λj7 a w U=>?_;refine U.o .fv λU=>?_;try have LJ:=U.dK 2 rfl
  refine ao λI a w U=>?_;rw[bN] at U;refine aM λI a w U=>?_;exact U.ag (k+1,j7) (by show k+1<=4;omega)
 refine zt ?_;refine ao λI a w U=>?_;refine St.lo (σ:=Nat×Value) (3::(run 10 16 [])) ⟨λ⟨j,r⟩=>[(3,AV.int j)],λ⟨j,r⟩=>[Own.box b0 28 [AV.val (.int .i64 0),AV.rows 7 [],AV.rows 15 [],AV.rows 13 [],AV.rows 1 []],Own.box b1 28 [AV.int 0,AV.val p,AV.val (.slice none 0 0),AV.val (.slice none 0 0),AV.val r],Own.row p 95 7 ((yS k).map Server.cells),Own.row r 40 1 ((A9 j).map du)],λ⟨j,r⟩=>j<=2⟩ (λ⟨j,r⟩=>2-j) (0,.slice none 0 0) U ?dC ?iJ;case dC=>exact Nat.zero_le _
 rintro⟨j,r⟩ I a w al U;have hj:j<=2:=al;dsimp only at U;refine aq λI a w U=>?_;refine cz (λah=>?_) λah=>?_
 .refine aF λI a w U=>?_;refine U.l0 λZD I a w U=>?_;obtain⟨I,U⟩:=U.fr 4 22;refine U.o (.li [du []] Ag (.v .nil)) λU=>?_;refine U.append 3 rfl xF pw rfl .tt .r rfl (by rw[List.length_map,O8];simp;omega) λtx a w U=>?_;rw[bN] at U;refine U.o .fv λU=>?_;try have NN:=U.dK 3 rfl
  refine aV λI a w U=>?_;have U:=U.drop 4;exact U.ag (j+1,tx) (by show j+1<=2;omega)
 refine wp_exit<|cm<|cm<|dS<|ba<|wp_seq ?_;have hk4:k=4:=by omega
 have hj2:j=2:=by omega
 subst hk4;subst hj2;obtain⟨I,U⟩:=U.fu 2 1 1;obtain⟨I,U⟩:=U.fu 3 4 1;have U:=U.qf (q:=2) 1 rfl rfl (fA 15 _);have U:=U.qf (q:=3) 1 rfl rfl (fA 13 _);refine aq λI a w U=>?_;refine U.ret rfl (.cons (.sx 0) aX.nil) ?_;rfl
def acL {x:aJ} {e:Ev} (h:e.kind=3) (hi:¬cw x.calls e.aA<0):fI x e=({x with calls:=x.calls.set (cw x.calls e.aA).toNat {ab x.calls (cw x.calls e.aA).toNat with over:=true}},true):=by
 unfold fI jc;rw[if_pos (.inr (.inr h)),if_neg om];dsimp only;rw[if_neg hi,if_pos h]
def wF {x:aJ} {e:Ev} (h:(aQ e.kind 6 9&&cQ e.at_)=true):fI x e=fH x e:=by
 have h2:=h;simp only[aQ,Bool.and_eq_true,decide_eq_true_eq] at h2;unfold fI;rw[if_neg om,if_neg om,if_pos h]
def acM {x:aJ} {e:Ev} (hk:e.kind=9) (hm:(dT (ab x.aC e.at_.toNat) e.slot).2.2=true):fH x e=({x with aC:=x.aC.set e.at_.toNat (dT (ab x.aC e.at_.toNat) e.slot).1,au:=eC x.au [(dT (ab x.aC e.at_.toNat) e.slot).2.1]},true):=by
 have h:=AS hm;rw[EW h];unfold fH;dsimp only;rw[if_neg om,if_neg om,if_neg om,if_pos h]
def acN {x:aJ} {e:Ev} (hk:e.kind=9) (hm:(dT (ab x.aC e.at_.toNat) e.slot).2.2=false):fH x e=(x,false):=by
 unfold fH;dsimp only;rw[if_neg om,if_neg om,if_neg om,if_neg (by rw[EV hm];simp)]
def PD (x:aJ) (h:sj x):
 Fn prog 84 [x.av] (x.av):=by
 refine Fn.go 69 func84 ntmps84 (λW I a U=>?_);obtain⟨⟨h1,h2⟩,⟨h3,h4⟩,⟨h5,h6⟩,h7,h8⟩:=h;have U:=U.fC (sz:=7) 95;have U:=U.fC (sz:=13) 45;have U:=U.fC (sz:=1) 40;refine bw λI a w U=>?_;refine U.alloc rfl eE eQ λb2 I a w U=>?_;refine zt ?_;refine U.da 7 ?_;simp only[TD];refine dq ?_;refine .o (.cl (Fe x.au h3 h4)) ?_;refine .o (.bd xC (.k (.k aT.nil))) ?_;refine fk.alloc eE eQ<|.nil ?_;intro I a w U;obtain⟨b3,U⟩:=U.rF (d:=3) rfl;refine aq λI a w U=>?_;refine St.lo (σ:=Nat×Value) (4::(run 18 13 [])) ⟨λ⟨k,p⟩=>[(4,AV.int k)],λ⟨k,p⟩=>[Own.row p 95 7 ((x.aC.take k).map Server.cells),Own.row (.slice none 0 0) 45 13 ([]),Own.row (.slice none 0 0) 40 1 ([]),Own.box b2 28 [AV.val (.int .i64 0),AV.rows 7 [],AV.rows 15 [],AV.rows 13 [],AV.rows 1 []],Own.box b3 28 [AV.int x.time,AV.val p,cU x.au,AV.val (.slice none 0 0),AV.val (.slice none 0 0)]],λ⟨k,p⟩=>k<=x.aC.length⟩ (λ⟨k,p⟩=>x.aC.length-k) (0,(.slice none 0 0)) U ?aH ?bx;case aH=>exact Nat.zero_le _
 rintro⟨k,p⟩ I a w al U;have hk:k<=x.aC.length:=al;dsimp only at U;refine cn λI a w U=>?_;refine cz (λae=>?_) λae=>?_
 .refine zt ?_;refine U.dt 9 ?_;simp only[TD];refine jJ ?_;refine .o (.c1 (v8 _ (h2 _ (bB ae)))) ?_;refine .o (.li [(ab x.aC k).cells] Aj (.u .nil)) ?_;refine .nil ?_;intro I a w U;refine U.ap 0 λtn a w U=>?_;rw[bN,<-dO ae] at U;refine U.o .fv λU=>?_;try have acO:=U.dK 0 rfl
  refine aV λI a w U=>?_;exact U.ag (k+1,tn) (ae)
 refine wp_exit<|cm<|cm<|dS<|ba<|wp_seq<|wp_seq ?_;rw[List.take_of_length_le om] at U;refine ao λI a w U=>?_;refine St.lo (σ:=Nat×Value) (5::(run 18 31 [])) ⟨λ⟨k,q⟩=>[(5,AV.int k)],λ⟨k,q⟩=>[Own.row p 95 7 (x.aC.map Server.cells),Own.row q 45 13 ((x.calls.take k).map Call.cells),Own.row (.slice none 0 0) 40 1 ([]),Own.box b2 28 [AV.val (.int .i64 0),AV.rows 7 [],AV.rows 15 [],AV.rows 13 [],AV.rows 1 []],Own.box b3 28 [AV.int x.time,AV.val p,cU x.au,AV.val q,AV.val (.slice none 0 0)]],λ⟨k,q⟩=>k<=x.calls.length⟩ (λ⟨k,q⟩=>x.calls.length-k) (0,(.slice none 0 0)) U ?dC ?iJ;case dC=>exact Nat.zero_le _
 rintro⟨k,q⟩ I a w al U;have hk:k<=x.calls.length:=al;dsimp only at U;refine cn λI a w U=>?_;refine cz (λah=>?_) λah=>?_
 .refine zt ?_;refine U.dt 9 ?_;simp only[TD];refine jJ ?_;refine .o (.c1 (AR _ (h6 _ (bB ah)))) ?_;refine .o (.li [(ab x.calls k).cells] xD (.u .nil)) ?_;refine .nil ?_;intro I a w U;refine U.ap 1 λyr a w U=>?_;rw[bN,<-dO ah] at U;refine U.o .fv λU=>?_;try have acP:=U.dK 1 rfl
  refine aV λI a w U=>?_;exact U.ag (k+1,yr) (ah)
 refine wp_exit<|cm<|cm<|dS<|ba<|wp_seq<|wp_seq ?_;rw[List.take_of_length_le om] at U;refine ao λI a w U=>?_;refine St.lo (σ:=Nat×Value) (6::(run 19 49 [])) ⟨λ⟨k,r⟩=>[(6,AV.int k)],λ⟨k,r⟩=>[Own.row p 95 7 (x.aC.map Server.cells),Own.row q 45 13 (x.calls.map Call.cells),Own.row r 40 1 ((x.seen.take k).map du),Own.box b2 28 [AV.val (.int .i64 0),AV.rows 7 [],AV.rows 15 [],AV.rows 13 [],AV.rows 1 []],Own.box b3 28 [AV.int x.time,AV.val p,cU x.au,AV.val q,AV.val r]],λ⟨k,r⟩=>k<=x.seen.length⟩ (λ⟨k,r⟩=>x.seen.length-k) (0,(.slice none 0 0)) U ?fU ?kT;case fU=>exact Nat.zero_le _
 rintro⟨k,r⟩ I a w al U;have hk:k<=x.seen.length:=al;dsimp only at U;refine cn λI a w U=>?_;refine cz (λaj=>?_) λaj=>?_
 .refine zt ?_;refine U.dt 10 ?_;simp only[TD];refine cg ?_;refine .o (qm c4 cx) ?_;refine eP ?_;refine .o (xr c4 cx rfl .tt .r (λ_=>by have:=h8 _ (bB aj);simp;omega)) ?_;refine .o (.li [du (ab x.seen k)] Ag (.v .nil)) ?_;refine .nil ?_;intro I a w U;refine U.ap 2 λHF a w U=>?_;rw[bN,<-dO aj] at U;refine U.o .fv λU=>?_;try have acQ:=U.dK 2 rfl
  refine aV λI a w U=>?_;exact U.ag (k+1,HF) (aj)
 refine wp_exit<|cm<|cm<|dS<|ba<|wp_seq ?_;rw[List.take_of_length_le om] at U;obtain⟨I,U⟩:=U.fu 0 1 4;obtain⟨I,U⟩:=U.fu 1 3 4;obtain⟨I,U⟩:=U.fu 2 4 4;have U:=U.nf;refine aq λI a w U=>?_;refine U.ret rfl (.cons (.sx 3) aX.nil) ?_;rfl
def cr.az {w:aJ} (h:cr w):∀q∈w.calls,q.az.length<=1048576:=λq hq=>by have:=h.lens.2 q hq;omega
def cr.Fit {w:aJ} (h:cr w):w.Fit:=⟨λm hm=>(by have:=se (h.words m hm);unfold iQ;omega),λq hq=>by
 obtain⟨i,hi,rfl⟩:=iz hq;have:=r6.1 (h.call hi).aA;unfold iQ;omega⟩
def acR (l:List aw) (h:l.length<=1048576) (hd:∀y∈l,iY y):
 gO prog 164 [cU l] 108 15 (l.map aw.cells):=by
 refine gO.intro 21 func164 rfl ntmps164 rfl aP (λW I a U=>?_);have hle:=U.eh (t:=0) rfl;refine ao λI a w U=>?_;refine U.l0 λb5 I a w U=>?_;refine aq λI a w U=>?_;refine St.lo (σ:=Nat×Value) (run 2 3 (run 14 6 [])) ⟨λ⟨k,v⟩=>[(4,AV.int k),(3,AV.val v)],λ⟨k,v⟩=>[Own.row v 108 15 ((l.take k).map aw.cells)],λ⟨k,v⟩=>k<=l.length⟩ (λ⟨k,v⟩=>l.length-k) (0,.slice (some ⟨b5,0,none⟩) 0 0) U ?aH ?bx;case aH=>exact Nat.zero_le _
 rintro⟨k,v⟩ I a w al U;have hk:k<=l.length:=al;dsimp only at U;refine aV λI a w U=>?_;refine cz (λae=>?_) λae=>?_
 .refine bK λI a w U=>?_;refine U.o (.c1 (Fc (ab l k) (hd _ (bB ae)))) λU=>?_;refine U.o (.li [(ab l k).cells] fo (.u .nil)) λU=>?_;refine U.ap 0 λj6 a w U=>?_;rw[bN,<-dO ae] at U;refine aV λI a w U=>?_;exact U.ag (k+1,j6) (ae)
 refine zt ?_;refine aq λI a w U=>?_;refine U.nO (r:=2) 0 rfl rfl rfl (by rw[List.take_of_length_le om])
def PE:AV:=AV.some j8 AV.int
def PF (s:Server) (r:Value×Value×Value) (I:Im) (v:Value) (_:True) (h:(s.OZ r).h I v):[Own.row r.1 97 2 (s.aN.map cI.cells),Own.row r.2.1 125 3 (s.aE.map an.cells),Own.row r.2.2 125 3 (s.bn.map an.cells)]=GQ s v:=by
 unfold GQ;rw[GP h (i:=2) rfl,GP h (i:=5) rfl,GP h (i:=6) rfl]
def NW (x:aJ):Prop:=x.Fit/\x.calls.length<=1048576/\∀q∈x.calls,q.az.length<=1048576
def cr.nw {x:aJ} (h:cr x):NW x:=⟨h.Fit,h.small.2.2.1.1,h.az⟩
def NW.of {x y:aJ} (h:NW x) (h1:y.au=x.au) (h2:y.calls=x.calls):NW y:=by
 obtain⟨⟨a,b⟩,c,d⟩:=h;exact⟨⟨by rw[h1];exact a,by rw[h2];exact b⟩,by rw[h2];exact c,by rw[h2];exact d⟩
def NW.word {x:aJ} (h:NW x) {m:aw} (hm:j8 m.aY/\j8 m.to):NW {x with au:=x.au++[m]}:=by
 obtain⟨⟨a,b⟩,c,d⟩:=h;refine⟨⟨λy hy=>?_,b⟩,c,d⟩;rcases List.mem_append.1 hy with hy|hy
 .exact a y hy
 obtain rfl:=List.mem_singleton.1 hy;unfold j8 at hm;unfold iQ;omega
def NW.words {x:aJ} (h:NW x) {m:aw} (hm:j8 m.aY/\j8 m.to):∀n:Nat,NW {x with au:=x.au++List.replicate n m}
 |0=>h.of bt rfl
 |n+1=>((h.words hm n).word hm).of (by show _=(x.au++List.replicate n m)++[m];rw[List.append_assoc,<-List.replicate_succ']) rfl
def NW.call {x:aJ} (h:NW x) {i:Nat} (hi:i<x.calls.length) {q:Call} (hc:q.aA=(ab x.calls i).aA) (hg:q.az=(ab x.calls i).az):NW {x with calls:=x.calls.set i q}:=by
 obtain⟨⟨a,b⟩,c,d⟩:=h;have hm:ab x.calls i∈x.calls:=bB hi;refine⟨⟨a,λy hy=>?_⟩,by show(x.calls.set i q).length<=_;rw[List.length_set];exact c,λy hy=>?_⟩
 .rcases List.mem_or_eq_of_mem_set hy with hy|rfl
  .exact b y hy
  rw[hc];exact b _ hm
 rcases List.mem_or_eq_of_mem_set hy with hy|rfl
 .exact d y hy
 rw[hg];exact d _ hm
def HG {α:Type} {f:α->List AV} {l:List α} {i:Nat} {r:List AV} (y:α):((l.map f).set i r).set i (f y)=(l.set i y).map f:=by rw[List.set_set,List.map_set]
def HH {α:Type} {l:List α} {i:Nat} {r:α} (h:i<l.length):(l.set i r)[i]?=some r:=by rw[List.getElem?_set_self h]
def ab8 (l:List (aw)) (p:(aw)->Bool) (fv:AV) (hf:∀x:aw,x∈l->jZ prog fv [x.av] (AV.bool (p x))):
 Fn prog 144 [cU l,fv] (AV.int (di p l)):=by
 refine Fn.go 19 func144 ntmps144 (λW I a U=>?_);have hle:=U.eh (t:=0) rfl;refine aV λI a w U=>?_;refine St.lo (σ:=Nat) (run 2 4 (run 11 8 [])) ⟨λk=>[(8,AV.int k)],λk=>[],λk=>k<=l.length/\∀i,i<k->p (ab l i)=false⟩ (λk=>l.length-k) 0 U ?aH ?bx;case aH=>exact⟨Nat.zero_le _,λi hi=>by omega⟩
 rintro k I a w al U;obtain⟨hk,aU⟩:=al;refine ao λI a w U=>?_;refine cz (λae=>?_) λae=>?_
 .refine fm λI a w U=>?_;refine U.o (uW (hf _ (bB ae)) .tt (ai .tt aB)) λU=>?_;refine zt ?_;refine U.cd (λah=>?_) λah=>?_
  .refine dh ?_;exact eW (lK ae aU ah).symm
  refine aq λI a w U=>?_;exact U.ag (k+1) (⟨ae,λi h1=>by rcases Nat.lt_succ_iff_lt_or_eq.1 h1 with h|h;exact aU i h;rw[h];exact ah⟩)
 refine zt ?_;refine bk ?_;exact eW (kR om aU).symm
def ab9 (l:List (aw)) (p:(aw)->Bool) (fv:AV) (hf:∀x:aw,x∈l->jZ prog fv [x.av] (AV.bool (p x))):
 Fn prog 67 [cU l,fv] (AV.bool (hasB p l)):=by
 refine Fn.go 9 func67 ntmps67 (λW I a U=>?_);refine bc λI a w U=>?_;refine U.o (.cl (ab8 _ _ _ hf)) λU=>?_;refine dh ?_;rfl
def Ck:aJ:=⟨0,[],[],[],[]⟩
def zd (l:List (List an)):(!hasB tV l)=cT l.length λi=>bP (ab l i):=by
 rw[yd];exact xj rfl λi _=>by simp[tV]
def aca (m:aw) (h1:iQ m.aY) (h2:iQ m.to):
 Fn prog 68 [m.av] (AV.bool (tJ m)):=by
 refine Fn.go 6 func68 ntmps68 (λW I a U=>?_);refine bc λI a w U=>?_;refine U.o (.c1 (GB _ h1 h2)) λU=>?_;refine dh ?_;rfl
def acb (l:List an):
 Fn prog 71 [bf l] (AV.bool (tV l)):=by
 refine Fn.go 6 func71 ntmps71 (λW I a U=>?_);refine aF λI a w U=>?_;refine U.o (.cl (yc ..)) λU=>?_;refine dh ?_;rfl
def aJ.Cl (w:aJ) (r:Value×Value×Value×Value):List Own:=[Own.row r.1 95 7 (w.aC.map Server.cells),Own.row r.2.1 108 15 (w.au.map aw.cells),Own.row r.2.2.1 45 13 (w.calls.map Call.cells),Own.row r.2.2.2 40 1 (w.seen.map du)]
def Py (q:Call) (k:Nat):(pX q k).length<=q.keys.length+q.aL.length:=by
 have:=G4 q _ (Nat.le_refl _);unfold pX;rw[List.length_append,List.length_map,List.length_take];omega
def HC {q:Call}:(asks q).length<=q.keys.length+q.aL.length+1:=by
 by_cases hk:q.kind=1
 .unfold asks;rw[if_pos hk];simp
 rw[<-GD hk (Nat.le_refl _)];have:=Py q q.aL.length;omega
def acd (q:Call) (t:Int) (h:dQ q t) (ht:t<=1000000):
 Fn prog 232 [q.av] (cU (jo q)):=by
 refine Fn.go 103 func232 ntmps232 (λW I a U=>?_);have U:=U.fC (sz:=15) 108;have U:=U.fC (sz:=15) 108;have hb:=h.bq;have uq:=h.yA om;have lX:=h.lens;have hal:=HC (q:=q);have aR:=r6.1 h.aA;refine bK λI a w U=>?_;refine U.o (cq (G3 q q.bq om) (ai (.t rfl) (ai (.t rfl) aB))) λU=>?_;refine bc λI a w U=>?_;refine U.q .F (.cl (Fl ..)) λU=>?_;refine aq λI a w U=>?_;refine U.cd (λae=>?_) λae=>?_
 .rw[O4 h om] at ae;replace ae:=nt ae;refine ao λI a w U=>?_;refine U.ret rfl (.cons (.nil (sz:=15) rfl) aX.nil) ?_;exact(by unfold jo;rw[ae];rfl)
 rw[O4 h om] at ae;replace ae:=nf ae;refine bw λI a w U=>?_;refine nn ?_;refine St.cut (σ:=Value) (3::(5::(7::(run 48 22 [])))) ⟨λv=>[(3,AV.val v)],λv=>[Own.row v 108 15 ((asks q).map aw.cells),Own.row (.slice none 0 0) 108 15 ([])],λv=>True⟩ U ?oP ?yR;case oP=>
  refine aM λI a w U=>?_;refine cz (λah=>?_) λah=>?_
  .refine U.dt 11 ?_;simp only[TD];refine vi ?_;refine .o (.bd dr (.k (.k (.k (.k aT.nil))))) ?_;refine .o (.li [({bW with kind:=1,key:=ab q.keys 0,val:=q.val,aS:=q.ctx}:aw).cells] fo (.u .nil)) ?_;refine .nil ?_;intro I a w U;refine U.append 0 rfl eA cV rfl .tt .r rfl bt λyM a w U=>?_;refine ao λI a w U=>?_;first|(rw[show[({bW with kind:=1,key:=ab q.keys 0,val:=q.val,aS:=q.ctx}:aw).cells]=(asks q).map aw.cells from by unfold asks;rw[if_pos ah];rfl] at U)|rw[GD ah om] at U
   exact U.me yM eZ
  refine aV λI a w U=>?_;refine St.lo (σ:=Nat×Value) (3::(5::(run 14 40 []))) ⟨λ⟨k,v⟩=>[(40,AV.int k),(3,AV.val v)],λ⟨k,v⟩=>[Own.row v 108 15 ((nE q k).map aw.cells),Own.row (.slice none 0 0) 108 15 ([])],λ⟨k,v⟩=>k<=q.keys.length⟩ (λ⟨k,v⟩=>q.keys.length-k) (0,(.slice none 0 0)) U ?aH ?bx;case aH=>exact Nat.zero_le _
  rintro⟨k,v⟩ I a w al U;have hk:k<=q.keys.length:=al;dsimp only at U;refine ao λI a w U=>?_;refine cz (λaj=>?_) λaj=>?_
  .refine bK λI a w U=>?_;refine U.o (.c2 (Lz q (ab q.keys k))) λU=>?_;refine ao λI a w U=>?_;refine cz (λaG=>?_) λaG=>?_
   .refine aF λI a w U=>?_;refine U.o (.bd dr (.k (.k aT.nil))) λU=>?_;refine U.o (.li [(tW (ab q.keys k)).cells] fo (.u .nil)) λU=>?_;refine U.append 0 rfl eA cV rfl .tt .r rfl (by have:=G4 q k hk;simp;omega) λv52 a w U=>?_;rw[bN,O3 aj (by simpa using aG)] at U;refine aM λI a w U=>?_;exact U.ag (k+1,v52) (aj)
   refine aq λI a w U=>?_;rw[OV aj (by simpa using aG)] at U;exact U.ag (k+1,v) (aj)
  refine wp_exit<|cm<|cm<|dS<|ba<|wp_seq ?_;rw[aal om] at U;refine aV λI a w U=>?_;refine St.lo (σ:=Nat×Value) (3::(7::(run 13 57 []))) ⟨λ⟨k,v⟩=>[(57,AV.int k),(3,AV.val v)],λ⟨k,v⟩=>[Own.row v 108 15 ((pX q k).map aw.cells),Own.row (.slice none 0 0) 108 15 ([])],λ⟨k,v⟩=>k<=q.aL.length⟩ (λ⟨k,v⟩=>q.aL.length-k) (0,v) U ?dC ?iJ;case dC=>exact Nat.zero_le _
  rintro⟨k,v⟩ I a w al U;have hk:k<=q.aL.length:=al;dsimp only at U;refine ao λI a w U=>?_;refine cz (λaK=>?_) λaK=>?_
  .refine aF λI a w U=>?_;refine U.alloc rfl cx ez λb7 I a w U=>?_;refine ao λI a w U=>?_;obtain⟨I,U⟩:=U.fb 2 7;refine bK λI a w U=>?_;refine U.o (.bd dr (.k (.k (.t aT.nil)))) λU=>?_;refine U.o (.li [(tH (ab q.aL k)).cells] fo (.u .nil)) λU=>?_;refine U.append 0 rfl eA cV rfl .tt .r rfl (by have:=Py q k;simp;omega) λGa a w U=>?_;rw[bN,aam aK] at U;refine aM λI a w U=>?_;have U:=U.drop 2;exact U.ag (k+1,Ga) (aK)
  refine zt ?_;first|(rw[show[({bW with kind:=1,key:=ab q.keys 0,val:=q.val,aS:=q.ctx}:aw).cells]=(asks q).map aw.cells from by unfold asks;rw[if_pos ah];rfl] at U)|rw[GD ah om] at U
  exact U.me v eZ
 rintro v I a w al U;refine ao λI a w U=>?_;obtain⟨I,U⟩:=U.fr 0 3;rw[show([]:List (List AV))=(mO q 0).map aw.cells from rfl] at U;refine aM λI a w U=>?_;refine St.lo (σ:=Nat×Value) (8::(run 2 10 (run 30 72 []))) ⟨λ⟨j,u⟩=>[(72,AV.int j),(8,AV.val u)],λ⟨j,u⟩=>[Own.gone,Own.row u 108 15 ((mO q j).map aw.cells)],λ⟨j,u⟩=>j<=(asks q).length⟩ (λ⟨j,u⟩=>(asks q).length-j) (0,(.slice none 0 0)) U ?fU ?kT;case fU=>exact Nat.zero_le _
 rintro⟨j,u⟩ I a w al U;have hj:j<=(asks q).length:=al;dsimp only at U;refine ao λI a w U=>?_;refine cz (λbh=>?_) λbh=>?_
 .refine aF λI a w U=>?_;refine U.alloc rfl cV dr λjU I a w U=>?_;refine ao λI a w U=>?_;rw[show mO q j=mO q j++(jn q (ab (asks q) j)).take 0 from by simp] at U;refine aF λI a w U=>?_;refine U.o (mS .c .tt (λ_=>by omega)) λU=>?_;refine ao λI a w U=>?_;refine St.lo (σ:=Nat×Int×Int×Int×Int×Value) (8::(11::(run 22 79 []))) ⟨λ⟨i,t11,f1,f2,f3,u2⟩=>[(11,AV.int t11),(8,AV.val u2)],λ⟨i,t11,f1,f2,f3,u2⟩=>[Own.gone,Own.row u2 108 15 ((mO q j++(jn q (ab (asks q) j)).take i).map aw.cells),Own.box jU 108 ({(ab (asks q) j) with aY:=f1,to:=f2,call:=f3}:aw).cells],λ⟨i,t11,f1,f2,f3,u2⟩=>i<=2/\t11=2*q.aA+(i:Int)⟩ (λ⟨i,t11,f1,f2,f3,u2⟩=>2-i) (0,2*q.aA,(ab (asks q) j).aY,(ab (asks q) j).to,(ab (asks q) j).call,u) U ?ue ?Gg;case ue=>exact⟨Nat.zero_le _,by simp⟩
  rintro⟨i,t11,f1,f2,f3,u2⟩ I a w al U;obtain⟨hi,rfl⟩:=al;dsimp only at U;refine bc λI a w U=>?_;refine U.o (mS .c .tt (λ_=>by omega)) λU=>?_;refine aq λI a w U=>?_;refine cz (λaZ=>?_) λaZ=>?_
  .refine zt ?_;refine U.db [([],none),([],none),([],none),([],none),([],none),([],none),([],none),([2],some (2,[])),([],none),([2],some (2,[])),([],none),([2],some (2,[]))] aP aP rfl ?_;refine jJ ?_;refine aI.de (x:=AV.any) 2 (λF W0 I0 I γ a w Q U kk=>U.s1 2 λU=>kk _ _ _ U) ?_;refine aW ?_;refine aI.de (x:=AV.any) 2 (λF W0 I0 I γ a w Q U kk=>U.s1 2 λU=>kk _ _ _ U) ?_;refine aW ?_;refine aI.de (x:=AV.any) 2 (λF W0 I0 I γ a w Q U kk=>U.s1 2 λU=>kk _ _ _ U) ?_;refine .nil ?_;intro I a w U;refine aF λI a w U=>?_;refine U.o (cq (yn {(ab (asks q) j) with aY:=10+q.aA,to:=2*q.aA+(i:Int),call:=q.num} (show iY (ab (asks q) j) from ZV om _ (bB bh))) (ai (.t rfl) aB)) λU=>?_;refine U.o (.li [({(ab (asks q) j) with aY:=10+q.aA,to:=2*q.aA+(i:Int),call:=q.num}:aw).cells] fo (.u .nil)) λU=>?_;refine U.append 1 rfl eA cV rfl .tt .r rfl (by have:=GA q j om;have:=HC (q:=q);simp[jn];omega) λacf a w U=>?_;rw[bN,List.append_assoc,Nz q _ om] at U;refine aV λI a w U=>?_;exact U.ag (i+1,2*q.aA+(i:Int)+1,10+q.aA,2*q.aA+(i:Int),q.num,acf) (⟨by show i+1<=2;omega,by simp;omega⟩)
  refine zt ?_;refine aq λI a w U=>?_;have U:=U.drop 2;rw[ZW bh om] at U;exact U.ag (j+1,u2) (bh)
 refine wp_exit<|cm<|cm<|dS<|ba<|wp_seq ?_;rw[OW ae om] at U;obtain⟨I,U⟩:=U.fr 1 8;refine dh ?_;rfl
def acg (b:Nat) (x:aJ) (e:Ev) (s r q z:Value) (hg:cr x) (ht:x.time<=1000000):
 bJ prog 229 [AV.val (.pointer (some ⟨b,0,none⟩)),e.av] (x.full b s r q z) (λ_:Value=>True) (λu=>bif (kb x e).2 then(kb x e).1.full b s r u z else[]) (λ_=>AV.bool (kb x e).2):=by
 refine bJ.intro 114 func229 rfl ntmps229 rfl aP (λW I a U=>?_);change St _ _ [Own.box b 28 [AV.int x.time,AV.val s,AV.val r,AV.val q,AV.val z],Own.row s 95 7 (x.aC.map Server.cells),Own.row r 108 15 (x.au.map aw.cells),Own.row q 45 13 (x.calls.map Call.cells),Own.row z 40 1 (x.seen.map du)] _ _ _ at U;have lX:=hg.lens;have B5:=hg.seen;have wB:=hg.time;refine bj λI a w U=>?_;refine U.o (.c1 (ya ..)) λU=>?_;refine bK λI a w U=>?_;refine U.q .F (z8 (xs:=[AV.val (.pointer (some ⟨b,0,none⟩)),AV.int e.aA]) (pr:=[AV.ptr [AV.int x.time,AV.val s,AV.val r,fN x.calls,AV.val z],AV.int e.aA]) (Gy x.calls x.time s r z e.aA) (ai .ag (ai .ag aB)) (λc I a w U=>by obtain⟨I,U⟩:=U.fu 3 3 0;obtain⟨I,U⟩:=U.fb 0 0;exact⟨_,_,_,U,rfl,rfl,trivial⟩)) λU=>?_;refine aq λI a w U=>?_;refine U.cd (λae=>?_) λae=>?_
 .rw[Mb] at ae;replace ae:=nt ae;refine ao λI a w U=>?_;refine U.bD (.bool false) [] rfl (.cons (.t rfl) .nil) trivial (by rw[FP ae];rfl) (by rw[FP ae];rfl)
 rw[Mb] at ae;replace ae:=nf ae;have B6:=ae;simp only[eN,aQ,Bool.and_eq_true,decide_eq_true_eq] at B6;refine zt ?_;have U:=U.fP;have U:=U.fP;have U:=U.fP;refine U.s7 22 _ (rp 6 (([6],some (6,[26]))::rp 3 (([0],none)::rp 2 (([4],none)::([4],none)::rp 4 [([0],none),([7],some (7,[40,26])),([5],some (5,[5]))])))) rfl aP aP rfl ?_;simp only[TD];refine gw ?_;refine aI.z7 (gH:=[[AV.int e.a]]) 6 rfl rfl cG cB rfl ix rfl rfl rfl (aT.c rfl rfl .tt (by first|exact fi rfl|exact dD|exact fB|exact fE|assumption) aT.nil) rfl rfl (by simp only[List.forall_mem_cons];exact⟨rfl,λ_ h=>by simp at h⟩) rfl ?_;refine dw ?_;refine .r [0] (.lb 0) ?_;refine cg ?_;refine .r [4] (vn 4 xF pw .tt .tt rfl (λ_=>by rw[List.length_map];omega)) ?_;refine .r [4] (KC (j:=0) 4 pw .tt rfl (λ_=>by exact dL om) rfl rfl rfl) ?_;refine .o (cq (qQ (ab x.seen e.aA.toNat) (by have:=hg.NI (i:=e.aA.toNat) om;omega)) (ai .r aB)) ?_;refine dw ?_;refine .r [0] (.lb 0) ?_;refine aI.Ak 7 [26] (λa=>AV.agg [AV.int e.aA,AV.int 1,AV.int e.call,AV.val (a.tmps.getD 26 undef),AV.int 0,bf (ab x.seen e.aA.toNat),AV.int x.time,AV.int 0,AV.bool false,AV.int 0,AV.int 0,AV.rows 9 [],AV.rows 3 []]) rfl rfl rfl rfl (λa b h=>by simp only[List.forall_mem_cons] at h;simp only[h]) rfl (λF a I he=>Ok.to (.bd jj (.k (.k (.k (aT.c Tr rfl .tt (rK (t:=26) he) (.k (.k aT.nil)))))))) ?_;refine aI.alloc 5 rfl rfl ei jj<|.nil ?_;intro I a w U;obtain⟨b5,U⟩:=U.lI (d:=5) 5 rfl rfl;change St _ _ [Own.box b 28 [AV.int x.time,AV.val s,AV.val r,AV.val q,AV.val z],Own.row s 95 7 (x.aC.map Server.cells),Own.row r 108 15 (x.au.map aw.cells),Own.row q 45 13 (x.calls.map Call.cells),Own.row z 40 1 (x.seen.map du),Own.box b5 45 _,Own.row (a.tmps.getD 26 undef) 3 1 [[AV.int e.a]],Own.is (AV.agg [AV.int e.aA,AV.int 1,AV.int e.call,AV.val (a.tmps.getD 26 undef),AV.int 0,bf (ab x.seen e.aA.toNat),AV.int x.time,AV.int 0,AV.bool false,AV.int 0,AV.int 0,AV.rows 9 [],AV.rows 3 []]) (a.tmps.getD 40 undef)] _ _ _ at U;have U:=U.Al (d:=40) 7 rfl;have U:=U.drop 7;generalize a.tmps.getD 26 undef=ud at U;show wpList _ _ _ _ _ _;refine bK λI a w U=>?_;refine U.o (jY 3 ju .tt rfl) λU=>?_;refine ao λI a w U=>?_;refine St.lo (σ:=Nat×Int) (7::(run 14 46 [])) ⟨λ⟨k,nm⟩=>[(46,AV.int k)],λ⟨k,nm⟩=>[Own.box b 28 [AV.int x.time,AV.val s,AV.val r,AV.val q,AV.val z],Own.row s 95 7 (x.aC.map Server.cells),Own.row r 108 15 (x.au.map aw.cells),Own.row q 45 13 (x.calls.map Call.cells),Own.row z 40 1 (x.seen.map du),Own.box b5 45 [AV.int e.aA,AV.int nm,AV.int e.call,AV.val ud,AV.int 0,bf (ab x.seen e.aA.toNat),AV.int x.time,AV.int 0,AV.bool false,AV.int 0,AV.int 0,AV.rows 9 [],AV.rows 3 []],Own.row ud 3 1 [[AV.int e.a]]],λ⟨k,nm⟩=>k<=x.calls.length/\nm=fT x.calls k e.aA+1⟩ (λ⟨k,nm⟩=>x.calls.length-k) (0,1) U ?aH ?bx;case aH=>exact⟨Nat.zero_le _,by rw[EX];rfl⟩
 rintro⟨k,nm⟩ I a w al U;obtain⟨hk,Cm⟩:=al;have hcn:=Bb x.calls k e.aA;dsimp only at U;refine ao λI a w U=>?_;refine cz (λah=>?_) λah=>?_
 .rw[List.length_map] at ah;refine zt ?_;refine U.o (vn 3 ju ei .tt .tt rfl (λ_=>by rw[List.length_map];omega)) λU=>?_;refine U.o (KD 3 ei .tt rfl (λ_=>by exact dL ah) rfl) λU=>?_;refine U.alloc rfl ei jj λb7 I a w U=>?_;refine U.sb 7 λU=>?_;obtain⟨I,U⟩:=U.fb 7 7;refine cn λI a w U=>?_;refine cz (λaj=>?_) λaj=>?_
  .rw[Int.toNat_natCast] at aj;refine bj λI a w U=>?_;refine U.s1 5 λU=>?_;refine aq λI a w U=>?_;have U:=U.drop 7;exact U.ag (k+1,nm+1) (⟨ah,by show nm+1=_;rw[qM ah,if_pos aj,Cm]⟩)
  rw[Int.toNat_natCast] at aj;refine aq λI a w U=>?_;have U:=U.drop 7;exact U.ag (k+1,nm) (⟨ah,by show nm=_;rw[qM ah,if_neg aj,Cm]⟩)
 rw[List.length_map] at ah;refine wp_exit<|cm<|cm<|dS<|ba ?_;refine St.cut (σ:=Int) (run 6 60 []) ⟨λval=>[],λval=>[Own.box b 28 [AV.int x.time,AV.val s,AV.val r,AV.val q,AV.val z],Own.row s 95 7 (x.aC.map Server.cells),Own.row r 108 15 (x.au.map aw.cells),Own.row q 45 13 (x.calls.map Call.cells),Own.row z 40 1 (x.seen.map du),Own.box b5 45 [AV.int e.aA,AV.int (qX x.calls e.aA+1),AV.int e.call,AV.val ud,AV.int val,bf (ab x.seen e.aA.toNat),AV.int x.time,AV.int 0,AV.bool false,AV.int 0,AV.int 0,AV.rows 9 [],AV.rows 3 []],Own.row ud 3 1 [[AV.int e.a]]],λval=>val=if e.call=1 then e.val else 0⟩ U ?Gv ?Zw;case Gv=>
  refine wp_seq ?_;rw[show k=x.calls.length by omega,<-Z6 hg] at Cm;subst Cm;refine aM λI a w U=>?_;refine cz (λaG=>?_) λaG=>?_
  .refine bc λI a w U=>?_;refine U.s1 5 λU=>?_;refine zt ?_;exact U.me e.val (by first|exact(if_pos aG).symm|exact(if_neg aG).symm)
  refine zt ?_;exact U.me 0 (by first|exact(if_pos aG).symm|exact(if_neg aG).symm)
 rintro val I a w al U;have rr:val=if e.call=1 then e.val else 0:=al
 subst rr;refine St.cut (σ:=Unit) (run 29 66 []) ⟨λ_=>[],λ_=>[Own.box b 28 [AV.int x.time,AV.val s,AV.val r,AV.val q,AV.val z],Own.row s 95 7 (x.aC.map Server.cells),Own.row r 108 15 (x.au.map aw.cells),Own.row q 45 13 (x.calls.map Call.cells),Own.row z 40 1 (x.seen.map du),Own.box b5 45 [AV.int e.aA,AV.int (qX x.calls e.aA+1),AV.int e.call,gJ (lU e),AV.int (if e.call=1 then e.val else 0),bf (ab x.seen e.aA.toNat),AV.int x.time,AV.int 0,AV.bool false,AV.int 0,AV.int 0,AV.rows 9 [],AV.rows 3 []],Own.gone],λ_=>True⟩ U ?HD ?ach;case HD=>
  refine td λI a w U=>?_;refine U.cd (λaK=>?_) λaK=>?_
  .refine bj λI a w U=>?_;refine U.o (.li [[AV.int e.b]] ix (.v .nil)) λU=>?_;refine U.append 6 rfl cG cB rfl .tt .r rfl bt λv81 a w U=>?_;refine U.o .fv λU=>?_;try have akv:=U.dK 6 rfl
   refine U.s1 5 λU=>?_;refine cn λI a w U=>?_;refine cz (λbh=>?_) λbh=>?_
   .refine bj λI a w U=>?_;refine U.o (.li [[AV.int e.c]] ix (.v .nil)) λU=>?_;refine U.append 6 rfl cG cB rfl .tt .r rfl bt λv93 a w U=>?_;refine U.o .fv λU=>?_;try have akx:=U.dK 6 rfl
    refine U.s1 5 λU=>?_;refine zt ?_;obtain⟨I,U⟩:=U.fu 6 3 5;have U:=U.pass (H':=[Own.box b 28 [AV.int x.time,AV.val s,AV.val r,AV.val q,AV.val z],Own.row s 95 7 (x.aC.map Server.cells),Own.row r 108 15 (x.au.map aw.cells),Own.row q 45 13 (x.calls.map Call.cells),Own.row z 40 1 (x.seen.map du),Own.box b5 45 [AV.int e.aA,AV.int (qX x.calls e.aA+1),AV.int e.call,gJ (lU e),AV.int (if e.call=1 then e.val else 0),bf (ab x.seen e.aA.toNat),AV.int x.time,AV.int 0,AV.bool false,AV.int 0,AV.int 0,AV.rows 9 [],AV.rows 3 []],Own.gone]) (by first|(rw[BA aK bh];rfl)|(rw[Bz aK (by simpa using bh)];rfl)|(rw[By aK];rfl));exact U.me () eZ
   refine zt ?_;obtain⟨I,U⟩:=U.fu 6 3 5;have U:=U.pass (H':=[Own.box b 28 [AV.int x.time,AV.val s,AV.val r,AV.val q,AV.val z],Own.row s 95 7 (x.aC.map Server.cells),Own.row r 108 15 (x.au.map aw.cells),Own.row q 45 13 (x.calls.map Call.cells),Own.row z 40 1 (x.seen.map du),Own.box b5 45 [AV.int e.aA,AV.int (qX x.calls e.aA+1),AV.int e.call,gJ (lU e),AV.int (if e.call=1 then e.val else 0),bf (ab x.seen e.aA.toNat),AV.int x.time,AV.int 0,AV.bool false,AV.int 0,AV.int 0,AV.rows 9 [],AV.rows 3 []],Own.gone]) (by first|(rw[BA aK bh];rfl)|(rw[Bz aK (by simpa using bh)];rfl)|(rw[By aK];rfl));exact U.me () eZ
  refine zt ?_;obtain⟨I,U⟩:=U.fu 6 3 5;have U:=U.pass (H':=[Own.box b 28 [AV.int x.time,AV.val s,AV.val r,AV.val q,AV.val z],Own.row s 95 7 (x.aC.map Server.cells),Own.row r 108 15 (x.au.map aw.cells),Own.row q 45 13 (x.calls.map Call.cells),Own.row z 40 1 (x.seen.map du),Own.box b5 45 [AV.int e.aA,AV.int (qX x.calls e.aA+1),AV.int e.call,gJ (lU e),AV.int (if e.call=1 then e.val else 0),bf (ab x.seen e.aA.toNat),AV.int x.time,AV.int 0,AV.bool false,AV.int 0,AV.int 0,AV.rows 9 [],AV.rows 3 []],Own.gone]) (by first|(rw[BA aK bh];rfl)|(rw[Bz aK (by simpa using bh)];rfl)|(rw[By aK];rfl));exact U.me () eZ
 rintro _ I a w al U;refine wp_seq ?_;obtain⟨I,U⟩:=U.fu 3 3 0;refine U.da 7 ?_;simp only[TD];refine dq ?_;refine fk.km (ZM x.calls om) (ai .r aB) ?_;refine aW ?_;refine .o (.li [(oE x e).cells] xD (.u .nil)) ?_;refine .nil ?_;intro I a w U;obtain⟨v99,U⟩:=U.z5 (d:=99);refine U.ap 7 λaci a w U=>?_;rw[bN] at U;refine dp λI a w U=>?_;refine U.o (z6 7 (ai .tt (ai .tt aB)) rfl (Pk (x.calls++[oE x e]) x.time om fK (λq hq=>Z7 hg B6.1 hq)) (λ_ _ _ h=>h)) λU=>?_;refine ao λI a w U=>?_;refine U.cd (λaZ=>?_) λaZ=>?_
 .replace aZ:=nt aZ;refine ao λI a w U=>?_;refine U.bD (.bool false) [] rfl (.cons (.t rfl) .nil) trivial (by rw[yF ae,aZ];rfl) (by rw[yF ae,aZ];rfl)
 replace aZ:=nf aZ;refine bj λI a w U=>?_;try have akz:=U.dK 7 rfl
 refine aq λI a w U=>?_;refine U.bD aci [0,1,2,7,4] rfl (.cons (.t rfl) .nil) trivial (by rw[yF ae,aZ];rfl) (by rw[yF ae,aZ];rfl)
def Pz (w:aJ) (e:Ev):eU w e=fI {w with time:=w.time+1} e:=rfl
def acj {x:aJ} {e:Ev} (h:e.kind=1):fI x e=kb x e:=by unfold fI jc;rw[if_pos (.inl h),if_pos h]
def ack {x:aJ} {e:Ev} (h:e.kind=2) (hi:¬cw x.calls e.aA<0):fI x e=({x with au:=eC x.au (jo (ab x.calls (cw x.calls e.aA).toNat))},true):=by
 unfold fI jc;rw[if_pos (.inr (.inl h)),if_neg om];dsimp only;rw[if_neg hi,if_neg om]
def acm {x:aJ} {e:Ev} (h1:¬e.kind=1) (h2:¬(e.kind=2\/e.kind=3)) (h4:¬e.kind=4) (h5:¬e.kind=5) (h:(aQ e.kind 6 9&&cQ e.at_)=false):fI x e=(x,false):=by
 unfold fI;rw[if_neg om,if_neg om,h];rfl
def PA {q:Call} {t:Int} (h:dQ q t):(jo q).length<=1048576/\∀y∈jo q,iY y:=by
 refine⟨?_,λy hy=>tO (N4 h y hy)⟩;cases hw:g0 q
 .unfold jo;rw[hw];exact Nat.zero_le _
 rw[<-OW hw (Nat.le_refl _),GA q _ (Nat.le_refl _)];have:=HC (q:=q);have:=h.lens;omega
def acn (code:List UInt8) (aR:code.length<=1099511627776):
 bJ prog 52 [cy code] [] (λr:Nat×List UInt8=>r.2.length<=1099511627776) (λr=>[Own.box r.1 147 [cy r.2,AV.int (0)]]) (λr=>AV.val (.pointer (some ⟨r.1,0,none⟩))):=by
 refine bJ.intro 11 func52 rfl ntmps52 rfl aP (λW I a U=>?_);refine bw λI a w U=>?_;refine nn ?_;refine St.cut (σ:=List UInt8) (0::(run 5 3 [])) ⟨λcd=>[(0,cy cd)],λcd=>[],λcd=>cd.length<=1099511627776⟩ U ?He ?abb;case He=>
  refine aM λI a w U=>?_;refine kO (λae=>?_) λae=>?_
  .refine bw λI a w U=>?_;refine U.o (w8 tf te .r .c (λ_=>by rw[List.length_map];omega)) λU=>?_;refine ao λI a w U=>?_;refine U.meet (code.take 2000) ?aco ef ?acp (by repeat(first|exact Env.zu|refine Env.iB rfl ?_));case aco=>first|exact aR|(simp;omega)
   case acp=>exact(Env.dM rfl (by first|rfl|(unfold cy;rw[List.map_take];rfl)) Env.le_nil)
  refine zt ?_;refine U.meet code ?acq ef ?acr (by repeat(first|exact Env.zu|refine Env.iB rfl ?_));case acq=>first|exact aR|(simp;omega)
  case acr=>exact(Env.dM rfl (by first|rfl|(unfold cy;rw[List.map_take];rfl)) Env.le_nil)
 rintro cd I a w al U;have gA:cd.length<=1099511627776:=al;refine bw λI a w U=>?_;refine U.o (.bd S7 (.k aT.nil)) λU=>?_;refine U.box rfl .tt λjU I a w U=>?_;refine ao λI a w U=>?_;refine U.bD (jU,cd) [0] rfl (.cons (.t rfl) .nil) gA rfl rfl
section
variable {P:Program} {H:Type} {enc:TypeId×Value->H} {W:World}
def acs {t:TypeId} (ht:P.underlying t=some (.int .u8)):xI enc P W Fq (λ_=>True) t:=λn cs x h=>by
 obtain⟨k,rfl,_,hw⟩:=DataW.trod_int ht h;simp only[Lit.wf,Bool.and_eq_true,decide_eq_true_eq] at hw;have h0:0<=k:=hw.1;have h1:k<=255:=hw.2;refine⟨UInt8.ofNat k.toNat,⟨⟨?_,rfl⟩,trivial⟩,trivial⟩;show Value.int .u8 k=Value.int .u8 ((UInt8.ofNat k.toNat).toNat:Int);rw[UInt8.toNat_ofNat'];congr 1;omega
end
def QJ {H:Type} {enc:TypeId×Value->H} {W:World}:xI enc prog W (λl:List UInt8=>[cy l]) (λl=>∀y∈l,True) 22:=
 Ua (t:=22) (sz:=1) (cf:=Fq) aP aP aO (λ_=>rfl) (acs (t:=5) aP)
def ev (kind at_ aA:Int):Ev:=⟨kind,at_,aA,0,0,0,0,0,0,0,0⟩
def Cn {f:aJ->Nat->aJ} {n:Int} (hf:∀x i,(f x i).time<=x.time+n):∀(l:List Nat) (x:aJ),(l.foldl f x).time<=x.time+n*(l.length:Nat)
 |[],x=>by simp
 |i::r,x=>by
  have h1:=Cn hf r (f x i);have h2:=hf x i;have h3:n*((r.length+1:Nat):Int)=n*(r.length:Nat)+n:=by rw[Int.natCast_add,Int.mul_add];simp
  rw[List.foldl_cons,List.length_cons];omega
def rl (br:Nat) (code:List UInt8) (a b:Int):Own:=Own.box br 147 [cy code,AV.some (λq:Int=>a<=q/\q<=b) AV.int]
def Co {br:Nat} {code:List UInt8} {q a b:Int} (h:a<=q/\q<=b) (I:Im) (w:World) (ho:(Own.box br 147 [cy code,AV.int (q)]).ok I w):(rl br code a b).ok I w:=by
 obtain⟨cs,e,hl⟩:=ho;refine⟨cs,e,?_⟩;revert hl;generalize cs.toList=l;intro hl;obtain⟨u0,us,rfl,h0,hl⟩:=hl.cN;obtain⟨u1,us,rfl,⟨e1,o1⟩,hl⟩:=hl.cN;obtain rfl:=hl.none;exact⟨h0,⟨⟨q,h,e1⟩,o1⟩,trivial⟩
def acu (br:Nat) (code:List UInt8) (p:Int) (hp:0<=p/\p<=1099510000000) (aR:code.length<=1099511627776):fQ prog 162 [AV.val (.pointer (some ⟨br,0,none⟩))] [Own.box br 147 [cy code,AV.int (p)]] [rl br code p (p+30)] ur:=
 (bJ.Um (GG br code p hp aR)).Aq (λ_=>rfl) (λx hx I w h=>Co hx.2 I w h) λx hx I v h=>⟨x.1,trivial,h⟩
def acv {α:Type} {f:α->List AV} {l:List α} {r:List AV} (y:α):((l.map f)++[r]).set l.length (f y)=(l++[y]).map f:=by
 rw[List.set_append_right _ _ bt];simp
def acw {α:Type} {f:α->List AV} {l:List α} {r:List AV}:((l.map f)++[r])[l.length]?=some r:=by
 rw[List.getElem?_append_right bt];simp
def ze:aw:=⟨7,0,1,0,0,⟨0,0⟩,0,false,[],0,0,[],[],[]⟩
def acx {I:Im} {cs:List Value} (h:bm I [ur] cs):∃l:List an,True/\bm I (du l) cs:=by
 obtain⟨u0,us,rfl,⟨⟨k0,_,e0⟩,o0⟩,h⟩:=h.cN;obtain rfl:=h.none;exact⟨k0,trivial,⟨e0,o0⟩,trivial⟩
def acy (k:Nat):-1<=ab ([1,2,0,-1,3]:List Int) k/\ab ([1,2,0,-1,3]:List Int) k<=3:=by
 match k with
 |0=>decide
 |1=>decide
 |2=>decide
 |3=>decide
 |4=>decide
 |k+5=>exact⟨by show(-1:Int)<=0;omega,by show(0:Int)<=3;omega⟩
end Go.Proofs.YtldbakcpcfdlaaaGreat
