/- Part 42: contracts of functions, plain facts. -/
import Derived.Test.YtldbakcpcfdlaaaGreatP40
set_option linter.all false
set_option maxRecDepth 100000
set_option maxHeartbeats 4000000
namespace Go.Proofs.YtldbakcpcfdlaaaGreat
open Go Go.RowKit Tryz
attribute [local irreducible] wpList Code.wp Ok
def Qa (x:aM) (e:Ev) (hg:cF x) (ht:x.time<=999999):
 Fn prog 118 [x.av,e.av] (AV.c8 [(gQ x e).1.av,AV.bool (gQ x e).2]):=by
 refine Fn.go 60 func118 ntmps118 (λW I a U=>?_);have xx:=hg.time;have mA:=hg.later;have AJ:aM.time {x with time:=x.time+1}<=1000000:=by show x.time+1<=1000000;omega
 refine sr<|U.box rfl .tt λb2 I a w U=>U.o .bp λU=>U.alloc rfl dz dT λb4 I a w U=>?_;refine KD λI a w U=>?_;refine U.cd (λab=>?_) λab=>?_
 .refine aA λI a w U=>?_;refine U.o (.c2 (acY {x with time:=x.time+1} e mA AJ)) λU=>?_;refine aU λI a w U=>?_;refine U.ret rfl (.cons (.sx 1) (.cons (.t rfl) aZ.nil)) ?_;exact(by rw[abK ab];rfl)
 refine iG λI a w U=>?_;refine U.cd (λah=>?_) λah=>?_
 .refine aA λI a w U=>?_;refine U.o (.c2 (acZ {x with time:=x.time+1} e mA AJ)) λU=>?_;refine aU λI a w U=>?_;refine U.ret rfl (.cons (.sx 1) (.cons (.t rfl) aZ.nil)) ?_;exact(by rw[abL ab ah];rfl)
 refine aA λI a w U=>?_;refine U.o (.cl (iu ..)) λU=>?_;refine aR λI a w U=>?_;refine U.q .F (.cl (qw ..)) λU=>?_;refine aI λI a w U=>?_;refine U.cd (λai=>?_) λai=>?_
 .refine aI λI a w U=>?_;refine U.ret rfl (.cons (.sx 1) (.cons (.t rfl) aZ.nil)) ?_;exact(by rw[abM ab ah ai];rfl)
 refine aA λI a w U=>?_;refine U.o (.c2 (acz {x with time:=x.time+1} e mA AJ (Wj ai))) λU=>?_;refine aU λI a w U=>?_;refine U.ret rfl (.cons (.sx 1) (.cons (.t rfl) aZ.nil)) ?_;exact(by rw[abN ab ah ai];rfl)
def Qb (x:aM) (e:Ev) (qY:∀q∈x.calls,q.au.length<=1048576):
 Fn prog 45 [x.av,e.av] (AV.c8 [(fl x e).1.av,AV.bool (fl x e).2]):=by
 refine Fn.go 29 func45 ntmps45 (λW I a U=>?_);refine aA λI a w U=>?_;refine U.alloc rfl dz dT λb4 I a w U=>?_;refine aA λI a w U=>?_;refine U.o (.c1 (PJ x qY)) λU=>?_;refine al λI a w U=>?_;refine U.cd (λab=>?_) λab=>?_
 .replace ab:=nt ab;refine zt ?_;refine U.o (.bd dT bf.nil) λU=>?_;refine ax λI a w U=>?_;refine U.ret rfl (.cons (.sx 0) (.cons (.t rfl) aZ.nil)) ?_;exact(by unfold fl;rw[ab];rfl)
 replace ab:=nf ab;have hg:=lS.1 ab;refine aI λI a w U=>?_;refine cz (λah=>?_) λah=>?_
 .refine aX λI a w U=>?_;refine U.o (.c1 (AH x hg.1.small)) λU=>?_;refine ax λI a w U=>?_;refine U.ret rfl (.cons (.sx 0) (.cons (.t rfl) aZ.nil)) ?_;exact(by unfold fl kY;rw[ab,if_pos rfl,if_neg om];rfl)
 refine aA λI a w U=>?_;refine U.o (bx (Qa x e hg.1 om) (an (.t rfl) (an (.t rfl) aH))) λU=>?_;refine aV λI a w U=>?_;refine U.alloc rfl dz dT λb6 I a w U=>?_;refine U.sb 1 λU=>?_;obtain⟨I,U⟩:=U.fb 1 6;refine aI λI a w U=>?_;refine U.cd (λai=>?_) λai=>?_
 .replace ai:=nt ai;refine aX λI a w U=>?_;refine U.o (.c1 (AH x hg.1.small)) λU=>?_;refine ax λI a w U=>?_;refine U.ret rfl (.cons (.sx 0) (.cons (.t rfl) aZ.nil)) ?_;exact(by unfold fl kY;rw[ab,if_pos rfl,if_neg (by rw[ai];simp)];rfl)
 replace ai:=nf ai;refine aX λI a w U=>?_;refine U.o (bx (AH (gQ x e).1 (acN ab om ai).small) (an (.t rfl) aH)) λU=>?_;refine ax λI a w U=>?_;refine U.ret rfl (.cons (.sx 0) (.cons (.t rfl) aZ.nil)) ?_;exact(by unfold fl kY;rw[ab,if_pos rfl,if_pos ⟨by omega,ai⟩];rfl)
def ac3 (l:List Ev):
 Fn prog 26 [o5 l] ((jq l).av):=by
 refine Fn.go 26 func26 ntmps26 (λW I a U=>?_);have hle:=U.dD (t:=0) rfl;refine sr<|U.alloc rfl dz dT λb2 I a w U=>?_;refine zt ?_;refine U.o (.cl (Y7 ..)) λU=>?_;refine U.alloc rfl dz dT λb3 I a w U=>?_;refine aU λI a w U=>?_;refine cz (λab=>?_) λab=>?_
 .refine ax λI a w U=>?_;refine U.ret rfl (.cons (.sx 0) aZ.nil) ?_;exact(by unfold jq;rw[if_pos om];rfl)
 refine al λI a w U=>?_;refine St.lo (σ:=Nat) (4::(run 15 10 [])) ⟨λk=>[(4,AV.int k)],λk=>[Own.box b2 28 [AV.val (.int .i64 0),AV.rows 7 [],AV.rows 15 [],AV.rows 13 [],AV.rows 1 []],Own.box b3 28 (wK l k).cells],λk=>k<=l.length⟩ (λk=>l.length-k) 0 U ?aD ?bh;case aD=>exact Nat.zero_le _
 rintro k I a w aj U;have hk:k<=l.length:=aj;have hg:=lS.1 (DA l k);dsimp only at U;refine aU λI a w U=>?_;refine cz (λah=>?_) λah=>?_
 .refine zt ?_;refine U.fV [([1],none),([],none),([],none),([],none),([],none),([],none),([],none),([],none),([],none),([1],some (1,[]))] aq aq rfl ?_;refine .r [1] (.ls 1) ?_;refine ef ?_;refine .o (.c2 (Qb (wK l k) (ae l k) hg.1.au)) ?_;refine ee ?_;refine aP.gZ (x:=AV.any) 1 (λF W0 I0 I γ a w Q U kk=>U.sb 1 λU=>kk _ _ _ U) ?_;refine .nil ?_;intro I a w U;refine aI λI a w U=>?_;rw[abT ah] at U;exact U.ag (k+1) (ah)
 refine zt ?_;refine ax λI a w U=>?_;refine U.ret rfl (.cons (.sx 0) aZ.nil) ?_;exact(by rw[Ip om om];rfl)
def DD (x:aM) (e:Ev) (hg:cF x) (ht:x.time<=999999):
 Fn prog 167 [x.av,e.av] ((ga x e).av):=by
 refine Fn.go 17 func167 ntmps167 (λW I a U=>?_);refine aA λI a w U=>?_;refine U.alloc rfl dz dT λb4 I a w U=>?_;refine aA λI a w U=>?_;refine U.o (.c2 (Qa x e hg ht)) λU=>?_;refine aV λI a w U=>?_;refine U.alloc rfl dz dT λb5 I a w U=>?_;refine U.sb 1 λU=>?_;obtain⟨I,U⟩:=U.fb 1 5;refine aI λI a w U=>?_;refine cz (λab=>?_) λab=>?_
 .refine ax λI a w U=>?_;refine U.ret rfl (.cons (.sx 0) aZ.nil) ?_;rw[show ga x e=x from by unfold ga;rw[if_neg (by rw[ab];simp)]];rfl
 refine ax λI a w U=>?_;refine U.ret rfl (.cons (.sx 0) aZ.nil) ?_;rw[show ga x e=(gQ x e).1 from by unfold ga;rw[if_pos ab]];rfl
def IC (x:aM) (hg:cF x) (ht:x.time<=98000):
 Fn prog 168 [x.av] ((gp 1000 x).av):=by
 refine Fn.go 18 func168 ntmps168 (λW I a U=>?_);refine sr<|U.box rfl .tt λb1 I a w U=>U.alloc rfl dz dT λb2 I a w U=>?_;refine al λI a w U=>?_;refine St.lo (σ:=Nat×aM) (run 14 3 []) ⟨λ⟨k,y⟩=>[(3,AV.int k)],λ⟨k,y⟩=>[Own.box b1 28 y.cells,Own.box b2 28 [AV.val (.int .i64 0),AV.rows 7 [],AV.rows 15 [],AV.rows 13 [],AV.rows 1 []]],λ⟨k,y⟩=>k<=1000/\vA x y k⟩ (λ⟨k,y⟩=>1000-k) (0,x) U ?aD ?bh;case aD=>exact⟨by omega,hg,by omega,rfl⟩
 rintro⟨k,y⟩ I a w aj U;obtain⟨hk,hp⟩:=aj;have vC:=hp.time;have j4:=hp.cX.aC;dsimp only at U;refine et λI a w U=>?_;refine uz (λab=>?_) λab=>?_
 .obtain⟨h1,h2⟩:=ab;refine aX λI a w U=>?_;refine U.o (.bd n6 (.k bf.nil)) λU=>?_;refine U.o (bx (DD y (ev 4 0 0) hp.cX om) (an (.t rfl) (an (.t rfl) aH))) λU=>?_;refine aU λI a w U=>?_;exact U.ag (k+1,ga y (ev 4 0 0)) (⟨by show k+1<=1000;omega,hp.next ht om om⟩)
 simp only[B,Bool.and_eq_false_iff] at ab;refine wp_exit<|bU<|bU<|eb<|ba<|wp_seq ?_;have hy:=(hp.stop om).symm;subst hy;refine ax λI a w U=>?_;refine U.ret rfl (.cons (.sx 1) aZ.nil) ?_;rfl
def ac4 (x:aM) (hg:cF x) (ht:x.time<=80000):
 Fn prog 85 [x.av] ((oS x).av):=by
 refine Fn.go 35 func85 ntmps85 (λW I a U=>?_);refine sr<|U.box rfl .tt λb1 I a w U=>U.alloc rfl dz dT λb2 I a w U=>?_;refine al λI a w U=>?_;refine St.lo (σ:=Nat×aM) (3::(run 8 6 [])) ⟨λ⟨k,y⟩=>[(3,AV.int k)],λ⟨k,y⟩=>[Own.box b1 28 y.cells,Own.box b2 28 [AV.val (.int .i64 0),AV.rows 7 [],AV.rows 15 [],AV.rows 13 [],AV.rows 1 []]],λ⟨k,y⟩=>k<=4/\pW (λ(w:aM) (i:Nat)=>ga w (ev 7 i 0)) 1 x y k⟩ (λ⟨k,y⟩=>4-k) (0,x) U ?aD ?bh;case aD=>exact⟨by omega,.zero (by assumption)⟩
 rintro⟨k,y⟩ I a w aj U;obtain⟨hk,hp⟩:=aj;have vC:=hp.time;have pX:=hp.cX;dsimp only at U;refine ax λI a w U=>?_;refine cz (λab=>?_) λab=>?_
 .refine aA λI a w U=>?_;refine U.o (.bd n6 (.k (.k bf.nil))) λU=>?_;refine U.o (bx (DD y (ev 7 k 0) hp.cX om) (an (.t rfl) (an (.t rfl) aH))) λU=>?_;refine aU λI a w U=>?_;exact U.ag (k+1,ga y (ev 7 k 0)) (⟨by show k+1<=4;omega,hp.next (pV pX om _) (mz y _)⟩)
 refine wp_exit<|bU<|bU<|eb<|ba<|wp_seq ?_;obtain rfl:k=4:=by omega
 have hy:j0 x=y:=hp.eq.symm;subst hy;have mA:=hp.cX;have AJ:=hp.time;refine aX λI a w U=>?_;refine U.o (bx (IC (j0 x) mA om) (an (.t rfl) aH)) λU=>?_;refine al λI a w U=>?_;have qX:=sB mA om;have ac5:=qX.1;have ac6:=qX.2;refine al λI a w U=>?_;refine St.lo (σ:=Nat×aM) (4::(run 9 16 [])) ⟨λ⟨k,y⟩=>[(4,AV.int k)],λ⟨k,y⟩=>[Own.box b1 28 y.cells,Own.box b2 28 [AV.val (.int .i64 0),AV.rows 7 [],AV.rows 15 [],AV.rows 13 [],AV.rows 1 []]],λ⟨k,y⟩=>k<=4/\pW lT 1001 (gp 1000 (j0 x)) y k⟩ (λ⟨k,y⟩=>4-k) (0,(gp 1000 (j0 x))) U ?eL ?jX;case eL=>exact⟨by omega,.zero (by assumption)⟩
 rintro⟨k,y⟩ I a w aj U;obtain⟨hk,hp⟩:=aj;have vC:=hp.time;have pX:=hp.cX;dsimp only at U;refine ax λI a w U=>?_;refine cz (λah=>?_) λah=>?_
 .refine wp_skip<|ba<|wp_seq<|wp_block ?_;have hl:=pV pX om (ev 8 k 0);have bW:=mz y (ev 8 k 0);have hd:=sB hl om;refine aA λI a w U=>?_;refine U.o (.bd n6 (.k (.k bf.nil))) λU=>?_;refine U.o (bx (DD y (ev 8 k 0) hp.cX om) (an (.t rfl) (an (.t rfl) aH))) λU=>?_;refine U.o (bx (IC (ga y (ev 8 k 0)) hl om) (an (.t rfl) aH)) λU=>?_;refine aU λI a w U=>?_;rw[DB] at U;exact U.ag (k+1,lT y k) (⟨by show k+1<=4;omega,hp.next hd.1 (by have:=hd.2;rw[DB] at this;omega)⟩)
 refine wp_exit<|bU<|bU<|eb<|ba<|wp_seq<|wp_seq ?_;obtain rfl:k=4:=by omega
 have hy:((List.range 4).foldl lT (gp 1000 (j0 x)))=y:=hp.eq.symm;subst hy;have hg3:=hp.cX;have ht3:=hp.time;refine al λI a w U=>?_;refine St.lo (σ:=Nat×aM) (5::(run 9 25 [])) ⟨λ⟨k,y⟩=>[(5,AV.int k)],λ⟨k,y⟩=>[Own.box b1 28 y.cells,Own.box b2 28 [AV.val (.int .i64 0),AV.rows 7 [],AV.rows 15 [],AV.rows 13 [],AV.rows 1 []]],λ⟨k,y⟩=>k<=2/\pW sA 1001 ((List.range 4).foldl lT (gp 1000 (j0 x))) y k⟩ (λ⟨k,y⟩=>2-k) (0,((List.range 4).foldl lT (gp 1000 (j0 x)))) U ?iA ?oL;case iA=>exact⟨by omega,.zero (by assumption)⟩
 rintro⟨k,y⟩ I a w aj U;obtain⟨hk,hp⟩:=aj;have vC:=hp.time;have pX:=hp.cX;dsimp only at U;refine ax λI a w U=>?_;refine cz (λai=>?_) λai=>?_
 .refine wp_skip<|ba<|wp_seq<|wp_block ?_;have hl:=pV pX om (ev 2 0 k);have bW:=mz y (ev 2 0 k);have hd:=sB hl om;refine aA λI a w U=>?_;refine U.o (.bd n6 (.k (.k bf.nil))) λU=>?_;refine U.o (bx (DD y (ev 2 0 k) hp.cX om) (an (.t rfl) (an (.t rfl) aH))) λU=>?_;refine U.o (bx (IC (ga y (ev 2 0 k)) hl om) (an (.t rfl) aH)) λU=>?_;refine aU λI a w U=>?_;rw[DC] at U;exact U.ag (k+1,sA y k) (⟨by show k+1<=2;omega,hp.next hd.1 (by have:=hd.2;rw[DC] at this;omega)⟩)
 refine wp_exit<|bU<|bU<|eb<|ba<|wp_seq ?_;obtain rfl:k=2:=by omega
 have hy:oS x=y:=hp.eq.symm;subst hy;refine ax λI a w U=>?_;refine U.ret rfl (.cons (.sx 1) aZ.nil) ?_;rfl
def ac9 (x:aM) (r:Int) (qY:∀q∈x.calls,q.au.length<=1048576):
 Fn prog 32 [x.av,AV.int r] ((iL x r).av):=by
 refine Fn.go 31 func32 ntmps32 (λW I a U=>?_);refine aX λI a w U=>?_;refine U.alloc rfl dz dT λb4 I a w U=>?_;refine aX λI a w U=>?_;refine U.o (.c1 (PJ x qY)) λU=>?_;refine al λI a w U=>?_;refine cz (λab=>?_) λab=>?_
 .refine zt ?_;refine U.o (.bd dT bf.nil) λU=>?_;refine al λI a w U=>?_;refine U.ret rfl (.cons (.sx 0) aZ.nil) ?_;rw[show iL x r=te from by unfold iL;rw[ab];rfl];rfl
 have rv:=lS.1 ab;have hg:=rv.1;refine aX λI a w U=>?_;refine U.o (.c1 (AH x hg.small)) λU=>U.alloc rfl dz dT λb5 I a w U=>?_;refine ax λI a w U=>?_;refine St.lo (σ:=Nat×aM) (6::(run 16 13 [])) ⟨λ⟨k,y⟩=>[(6,AV.int k)],λ⟨k,y⟩=>[Own.box b4 28 [AV.val (.int .i64 0),AV.rows 7 [],AV.rows 15 [],AV.rows 13 [],AV.rows 1 []],Own.box b5 28 y.cells],λ⟨k,y⟩=>k<=40/\vB (min r 40).toNat x y k⟩ (λ⟨k,y⟩=>40-k) (0,x) U ?aD ?bh;case aD=>exact⟨by omega,hg,rv.2,rfl⟩
 rintro⟨k,y⟩ I a w aj U;obtain⟨hk,hp⟩:=aj;dsimp only at U;refine E6 λI a w U=>?_;refine uz (λah=>?_) λah=>?_
 .obtain⟨⟨h1,h2⟩,h3⟩:=ah;refine aX λI a w U=>?_;refine U.o (bx (ac4 y hp.cX om) (an (.t rfl) aH)) λU=>?_;refine aU λI a w U=>?_;exact U.ag (k+1,oS y) (⟨by show k+1<=40;omega,hp.next om om⟩)
 simp only[B,Bool.and_eq_false_iff] at ah;refine wp_exit<|bU<|bU<|eb<|ba<|wp_seq ?_;have hy:=hp.stop om;refine aX λI a w U=>?_;refine U.o (.c1 (AH y hp.cX.small)) λU=>?_;refine al λI a w U=>?_;refine U.ret rfl (.cons (.sx 0) aZ.nil) ?_;rw[show iL x r=y from by unfold iL;rw[if_pos ab];exact hy.symm];rfl
def ac1 (b:Nat) (x:aM) (e:Ev) (s r q z:Value) (hg:cF x) (ht:x.time<=1000000):
 bG prog 154 [AV.val (.pointer (some ⟨b,0,none⟩)),e.av] (x.full b s r q z) (λ_:Value×Value=>True) (λu=>bif (fZ x e).2 then(fZ x e).1.full b s u.1 u.2 z else[]) (λ_=>AV.bool (fZ x e).2):=by
 refine bG.intro 148 func154 rfl ntmps154 rfl aq (λW I a U=>?_);change St _ _ [Own.box b 28 [AV.int x.time,AV.val s,AV.val r,AV.val q,AV.val z],Own.row s 95 7 (x.aF.map Server.cells),Own.row r 108 15 (x.aC.map az.cells),Own.row q 45 13 (x.calls.map Call.cells),Own.row z 40 1 (x.seen.map fh)] _ _ _ at U;have oR:=hg.lens;have Dw:=hg.seen;have xx:=hg.time;have j4:=hg.aC;have yJ:=hg.aF;have mX:(List.map az.cells x.aC).length<=60:=by rw[List.length_map];exact j4
 obtain⟨bS,cS,rfl⟩:=U.iS 1 rfl jr;refine gy λI a w U=>?_;refine cz (λab=>?_) λab=>?_
 .refine aA λI a w U=>?_;refine U.dX [0,1,2,3,4] (acJ b x e (.slice (some ⟨bS,0,none⟩) (x.aF.map Server.cells).length cS) r q z hg ht) (an .tt (an .tt aH)) rfl bA rfl λu I a w Dp U=>?_;refine U.s λU=>nn<|wp_ret<|tY<|vJ ?_;have hR:fZ x e=lE x e:=abO ab;cases hB:(lE x e).2
  .refine U.cE (r,r) [] rfl (.cons (j5.t rfl) .nil) trivial (by rw[hR,hB];rfl) (by rw[hR];rfl)
  rw[hB] at U;refine U.cE (r,u) [0,1,2,3,4] rfl (.cons (j5.t rfl) .nil) trivial (by rw[hR,hB];rfl) (by rw[hR,hB];rfl)
 refine St.cut (σ:=Bool) (17::18::19::[]) ⟨λg=>[(17,AV.bool g)],λg=>[Own.box b 28 [AV.int x.time,AV.val (.slice (some ⟨bS,0,none⟩) (x.aF.map Server.cells).length cS),AV.val r,AV.val q,AV.val z],Own.row (.slice (some ⟨bS,0,none⟩) (x.aF.map Server.cells).length cS) 95 7 ((x.aF).map Server.cells),Own.row r 108 15 ((x.aC).map az.cells),Own.row q 45 13 ((x.calls).map Call.cells),Own.row z 40 1 ((x.seen).map fh)],λg=>g=decide (e.kind=2\/e.kind=3)⟩ U ?sw ?Dy;case sw=>
  refine ax λI a w U=>?_;refine cz (λah=>?_) λah=>?_
  .refine zt ?_;exact U.me (e.kind==2) (by first|(show(e.kind==2)=_;rw[Bool.eq_iff_iff];simp;omega)|(show(e.kind==3)=_;rw[Bool.eq_iff_iff];simp;omega))
  refine ax λI a w U=>?_;exact U.me (e.kind==3) (by first|(show(e.kind==2)=_;rw[Bool.eq_iff_iff];simp;omega)|(show(e.kind==3)=_;rw[Bool.eq_iff_iff];simp;omega))
 rintro g I a w aj U;obtain rfl:g=decide (e.kind=2\/e.kind=3):=aj;refine cz (λai=>?_) λai=>?_
 .refine aV λI a w U=>?_;refine U.o (nx (xs:=[AV.val (.pointer (some ⟨b,0,none⟩)),AV.int e.aB]) (gi:=[AV.ptr [AV.int x.time,AV.val (.slice (some ⟨bS,0,none⟩) (x.aF.map Server.cells).length cS),AV.val r,jb x.calls,AV.val z],AV.int e.aB]) (G1 x.calls x.time (.slice (some ⟨bS,0,none⟩) (x.aF.map Server.cells).length cS) r z e.aB) (an .tt (an .tt aH)) (λc I a w U=>by obtain⟨I,U⟩:=U.fu 3 3 0;obtain⟨I,U⟩:=U.fb 0 0;exact⟨_,_,_,U,rfl,rfl,trivial⟩)) λU=>?_;refine aI λI a w U=>?_;refine cz (λaG=>?_) λaG=>?_
  .refine al λI a w U=>?_;have hR:fZ x e=(x,false):=abP ai aG;refine U.cE (r,r) [] rfl (.cons (.t rfl) .nil) trivial (by rw[hR];rfl) (by rw[hR];rfl)
  obtain⟨h1,h2,h3⟩:=vg (show 0<=(cI x.calls e.aB) by omega);obtain⟨bC,cC,rfl⟩:=U.iS 3 rfl jr;refine aI λI a w U=>?_;refine cz (λaL=>?_) λaL=>?_
  .refine df λI a w U=>?_;refine U.o (gv gz dm .tt .tt (λ_=>by rw[List.length_map];omega)) λU=>?_;refine U.o (p6 3 dm .tt rfl (λ_=>by exact fq om) rfl) λU=>?_;refine U.o (.c1 (acP (ae x.calls (cI x.calls e.aB).toNat) x.time (hg.call h1) ht)) λU=>?_;refine U.dX [0,2] (C6 b x.time (.slice (some ⟨bS,0,none⟩) (x.aF.map Server.cells).length cS) r (.slice (some ⟨bC,0,none⟩) (x.calls.map Call.cells).length cC) z x.aC (jF (ae x.calls (cI x.calls e.aB).toNat)) j4 (PR (hg.call h1)).1 (PR (hg.call h1)).2) (an .tt (an .r aH)) rfl bA rfl λu2 I a w aah U=>?_;refine al λI a w U=>?_;have hR:fZ x e=({x with aC:=fe x.aC (jF (ae x.calls (cI x.calls e.aB).toNat))},true):=abQ aL om;refine U.cE (u2,(.slice (some ⟨bC,0,none⟩) (x.calls.map Call.cells).length cC)) [0,1,2,3,4] rfl (.cons (.t rfl) .nil) trivial (by rw[hR];rfl) (by rw[hR];rfl)
  refine bV λI a w U=>?_;refine U.o (gv gz dm .tt .tt (λ_=>by rw[List.length_map];omega)) λU=>?_;refine U.o .fv λU=>?_;refine U.ui (j:=8) 3 rA .tt .c (by first|exact cL rfl|exact cN|exact cO|exact cP|assumption) rfl (by exact fq om) rfl rfl λa w U=>?_;refine wpList_nil ?_;have e9:∀y,y=Call.cells {(ae x.calls (cI x.calls e.aB).toNat) with over:=true}->(List.map Call.cells x.calls).set (cI x.calls e.aB).toNat y=List.map Call.cells (x.calls.set (cI x.calls e.aB).toNat {(ae x.calls (cI x.calls e.aB).toNat) with over:=true}):=λy hy=>by rw[hy,List.map_set]
  rw[e9] at U;rotate_left
  .rfl
  refine al λI a w U=>?_;have hR:fZ x e=({x with calls:=x.calls.set (cI x.calls e.aB).toNat {(ae x.calls (cI x.calls e.aB).toNat) with over:=true}},true):=abR om om;refine U.cE (r,(.slice (some ⟨bC,0,none⟩) (x.calls.map Call.cells).length cC)) [0,1,2,3,4] rfl (.cons (.t rfl) .nil) trivial (by rw[hR];rfl) (by rw[hR];rfl)
 refine ax λI a w U=>?_;refine cz (λbc=>?_) λbc=>?_
 .refine aA λI a w U=>?_;refine U.dX [0,1,2,3,4] (acW b x e (.slice (some ⟨bS,0,none⟩) (x.aF.map Server.cells).length cS) r q z hg ht bc) (an .tt (an .tt aH)) rfl bA rfl λu I a w aip U=>?_;refine U.s λU=>nn<|wp_ret<|tY<|vJ ?_;have hR:fZ x e=iY x e:=Io (.inl bc);cases hB:(iY x e).2
  .refine U.cE (r,r) [] rfl (.cons (j5.t rfl) .nil) trivial (by rw[hR,hB];rfl) (by rw[hR];rfl)
  rw[hB] at U;refine U.cE (u,q) [0,1,2,3,4] rfl (.cons (j5.t rfl) .nil) trivial (by rw[hR,hB];rfl) (by rw[hR,hB];rfl)
 refine ax λI a w U=>?_;refine cz (λaY=>?_) λaY=>?_
 .refine wp_seq<|wp_seq<|U.dk ?_;refine gS ?_;refine .o (jL 2 dC .tt rfl) ?_;refine br ?_;refine .o (.cl (im ..)) ?_;refine br ?_;refine .nil ?_;intro I a w U;refine ba ?_;refine U.cd (λbz=>?_) λbz=>?_
  .rw[List.length_map] at bz;replace bz:=nt bz;refine al λI a w U=>?_;have hR:fZ x e=(x,false):=by rw[Io (.inr aY),Dq bz]
   refine U.cE (r,r) [] rfl (.cons (.t rfl) .nil) trivial (by rw[hR];rfl) (by rw[hR];rfl)
  rw[List.length_map] at bz;replace bz:=nf bz;have q8:=bz;simp only[aS,Bool.and_eq_true,decide_eq_true_eq] at q8;refine zt ?_;refine U.fV (rp 4 (([0],none)::rp 5 (([2],some (2,[73]))::rp 2 [([0],some (0,[73]))]))) aq aq rfl ?_;refine ef ?_;refine .r [0] (.lb 0) ?_;refine fQ ?_;refine aP.KL 2 rfl rfl (Nn r x.aC e.word om om om) (an .r (an .tt (an .tt aH))) ?_;refine cy ?_;refine aP.EC 0 rfl Fa .tt rfl rfl<|.nil ?_;intro I a w U;change St _ _ [Own.box b 28 [AV.int x.time,AV.val (.slice (some ⟨bS,0,none⟩) (x.aF.map Server.cells).length cS),AV.val (a.tmps.getD 73 undef),AV.val q,AV.val z],Own.row (.slice (some ⟨bS,0,none⟩) (x.aF.map Server.cells).length cS) 95 7 ((x.aF).map Server.cells),Own.row (a.tmps.getD 73 undef) 108 15 ((x.aC.take e.word.toNat++x.aC.drop (e.word.toNat+1)).map az.cells),Own.row q 45 13 ((x.calls).map Call.cells),Own.row z 40 1 ((x.seen).map fh)] _ _ _ at U;generalize a.tmps.getD 73 undef=v73 at U;refine al λI a w U=>?_;have hR:fZ x e=({x with aC:=x.aC.take e.word.toNat++x.aC.drop (e.word.toNat+1)},true):=by rw[Io (.inr aY),tN bz,if_pos aY];unfold gP;rw[if_pos (.inl aY)]
  refine U.cE (v73,q) [0,1,2,3,4] rfl (.cons (.t rfl) .nil) trivial (by rw[hR];rfl) (by rw[hR];rfl)
 refine aA λI a w U=>?_;refine U.o (.cl (im ..)) λU=>?_;refine aR λI a w U=>?_;refine U.q .F (.cl (qH ..)) λU=>?_;refine ax λI a w U=>?_;refine U.cd (λbR=>?_) λbR=>?_
 .rw[<-Bool.not_and] at bR;replace bR:=nt bR;refine al λI a w U=>?_;have hR:fZ x e=(x,false):=abS ab ai bc aY bR;refine U.cE (r,r) [] rfl (.cons (.t rfl) .nil) trivial (by rw[hR];rfl) (by rw[hR];rfl)
 rw[<-Bool.not_and] at bR;replace bR:=nf bR;have P9:=bR;simp only[aS,Bool.and_eq_true,decide_eq_true_eq] at P9;have xq:=mu.1 P9.2;have j1:=(hg.site e.at_.toNat om).2;refine wp_skip<|ba<|wp_seq<|U.dk ?_;refine gS ?_;refine .o (gv jw bL .tt .tt (λ_=>by rw[List.length_map];omega)) ?_;refine br ?_;refine .nil ?_;intro I a w U;refine ba<|wp_seq<|wp_seq<|U.dk ?_;refine ee ?_;refine .o (QU 1 rA .tt rfl (λ_=>by exact fq om) rfl rfl rfl) ?_;refine ee ?_;refine .o (Q4 .tt .tt n7)<|.nil ?_;intro I a w U;refine ba ?_;refine U.cd (λdO=>?_) λdO=>?_
 .refine al λI a w U=>?_;have hR:(fZ x e).2=false:=by rw[xv bR];exact aa3 dO
  refine U.cE (r,r) [] rfl (.cons (.t rfl) .nil) trivial (by rw[hR];rfl) (by rw[hR];rfl)
 refine aU λI a w U=>?_;refine cz (λeE=>?_) λeE=>?_
 .refine aV λI a w U=>?_;refine U.o (p6 1 bL .tt rfl (λ_=>by exact fq om) rfl) λU=>?_;refine U.o (.c1 (YC (ae x.aF e.at_.toNat) j1)) λU=>?_;refine U.o .nl λU=>?_;refine U.ja 1 bL .tt .tt rfl (by exact fq om) rfl rfl λa w U=>?_;refine wpList_nil ?_;have e9:∀y,y=Server.cells (px (ae x.aF e.at_.toNat))->(List.map Server.cells x.aF).set e.at_.toNat y=List.map Server.cells (x.aF.set e.at_.toNat (px (ae x.aF e.at_.toNat))):=λy hy=>by rw[hy,List.map_set]
  rw[e9] at U;rotate_left
  .rfl
  refine al λI a w U=>?_;have hR:fZ x e=({x with aF:=x.aF.set e.at_.toNat (px (ae x.aF e.at_.toNat))},true):=by rw[xv bR,aa4 dO eE]
  refine U.cE (r,q) [0,1,2,3,4] rfl (.cons (.t rfl) .nil) trivial (by rw[hR];rfl) (by rw[hR];rfl)
 refine ax λI a w U=>?_;refine cz (λjU=>?_) λjU=>?_
 .refine aV λI a w U=>?_;refine U.o (p6 1 bL .tt rfl (λ_=>by exact fq om) rfl) λU=>?_;refine U.o (.c1 (YB (ae x.aF e.at_.toNat) j1)) λU=>?_;refine U.o .nl λU=>?_;refine U.ja 1 bL .tt .tt rfl (by exact fq om) rfl rfl λa w U=>?_;refine wpList_nil ?_;have e9:∀y,y=Server.cells (py (ae x.aF e.at_.toNat))->(List.map Server.cells x.aF).set e.at_.toNat y=List.map Server.cells (x.aF.set e.at_.toNat (py (ae x.aF e.at_.toNat))):=λy hy=>by rw[hy,List.map_set]
  rw[e9] at U;rotate_left
  .rfl
  refine al λI a w U=>?_;have hR:fZ x e=({x with aF:=x.aF.set e.at_.toNat (py (ae x.aF e.at_.toNat))},true):=by rw[xv bR,aa5 dO jU]
  refine U.cE (r,q) [0,1,2,3,4] rfl (.cons (.t rfl) .nil) trivial (by rw[hR];rfl) (by rw[hR];rfl)
 refine ax λI a w U=>?_;refine cz (λmW=>?_) λmW=>?_
 .refine aV λI a w U=>?_;refine U.o (p6 1 bL .tt rfl (λ_=>by exact fq om) rfl) λU=>?_;refine U.o (.c1 (ab8 (ae x.aF e.at_.toNat) j1)) λU=>?_;refine U.dX [0,2] (C6 b x.time (.slice (some ⟨bS,0,none⟩) (x.aF.map Server.cells).length cS) r q z x.aC (lD (ae x.aF e.at_.toNat)) j4 (by have:=PB j1;omega) (λy hy=>vm (H5 j1 y hy))) (an .tt (an .r aH)) rfl bA rfl λu2 I a w aiq U=>?_;refine al λI a w U=>?_;have hR:fZ x e=({x with aC:=fe x.aC (lD (ae x.aF e.at_.toNat))},true):=by rw[xv bR,aa6 dO mW]
  refine U.cE (u2,q) [0,1,2,3,4] rfl (.cons (.t rfl) .nil) trivial (by rw[hR];rfl) (by rw[hR];rfl)
 refine ax λI a w U=>?_;refine cz (λoj=>?_) λoj=>?_
 .refine wp_seq ?_;have U:=U.dH;have U:=U.dH;refine U.fV (rp 2 [([1],none),([],none),([],none),([],none),([],none),([],none),([],none),([],none),([5],some (5,[7])),([6],some (6,[8])),([5],some (5,[7])),([6],some (6,[8])),([],none)]) aq aq rfl ?_;refine cy ?_;refine .r [1] (p6 1 bL .tt rfl (λ_=>by exact fq om) rfl) ?_;refine cy ?_;refine .o (.c2 (abk (ae x.aF e.at_.toNat) e.slot j1)) ?_;refine ef ?_;refine aP.alloc 5 rfl rfl bL di<|aP.alloc 6 rfl rfl cH dN<|aP.ri 5 rfl bL rfl .tt rfl rfl<|aP.ri 6 rfl cH rfl .tt rfl rfl ?_;refine br ?_;refine .nil ?_;intro I a w U;obtain⟨b7,U⟩:=U.nv (d:=7) 5 rfl rfl;obtain⟨I,U⟩:=U.fb 5 7;obtain⟨b8,U⟩:=U.nv (d:=8) 6 rfl rfl;obtain⟨I,U⟩:=U.fb 6 8;refine ax λI a w U=>?_;refine U.cd (λpE=>?_) λpE=>?_
  .replace pE:=nt pE;refine al λI a w U=>?_;have hR:fZ x e=(x,false):=by rw[xv bR,aa8 oj pE]
   refine U.cE (r,r) [] rfl (.cons (.t rfl) .nil) trivial (by rw[hR];rfl) (by rw[hR];rfl)
  replace pE:=nf pE;refine aV λI a w U=>?_;refine U.ja 1 bL .tt .tt rfl (by exact fq om) rfl rfl λa w U=>?_;refine wpList_nil ?_;have e9:∀y,y=Server.cells (eF (ae x.aF e.at_.toNat) e.slot).1->(List.map Server.cells x.aF).set e.at_.toNat y=List.map Server.cells (x.aF.set e.at_.toNat (eF (ae x.aF e.at_.toNat) e.slot).1):=λy hy=>by rw[hy,List.map_set]
  rw[e9] at U;rotate_left
  .rfl
  refine aA λI a w U=>?_;refine U.o (.li [(eF (ae x.aF e.at_.toNat) e.slot).2.1.cells] gj (.u .nil)) λU=>?_;refine U.dX [0,2] (C6 b x.time (.slice (some ⟨bS,0,none⟩) (x.aF.map Server.cells).length cS) r q z x.aC [(eF (ae x.aF e.at_.toNat) e.slot).2.1] j4 be (aa9 j1 pE)) (an .tt (an .r aH)) rfl bA rfl λu2 I a w air U=>?_;refine al λI a w U=>?_;have hR:fZ x e=({x with aF:=x.aF.set e.at_.toNat (eF (ae x.aF e.at_.toNat) e.slot).1,aC:=fe x.aC [(eF (ae x.aF e.at_.toNat) e.slot).2.1]},true):=by rw[xv bR,aa7 oj pE]
  refine U.cE (u2,q) [0,1,2,3,4] rfl (.cons (.t rfl) .nil) trivial (by rw[hR];rfl) (by rw[hR];rfl)
 refine aX λI a w U=>?_;refine nn<|wp_ret ?_;exfalso;omega
def xy (x:aM) (e:Ev) (hg:cF x) (ht:x.time<=99999):
 Fn prog 79 [x.av,e.av] (AV.c8 [(kY x e).1.av,AV.bool (kY x e).2]):=by
 refine Fn.go 22 func79 ntmps79 (λW I a U=>?_);have xx:=hg.time;refine aA λI a w U=>?_;refine U.alloc rfl dz dT λb4 I a w U=>?_;refine aU λI a w U=>?_;refine cz (λab=>?_) λab=>?_
 .refine aI λI a w U=>?_;refine U.ret rfl (.cons (.sx 0) (.cons (.t rfl) aZ.nil)) ?_;exact(by unfold kY;rw[if_neg om];rfl)
 refine aX λI a w U=>?_;refine U.dX [] (aaW x hg.small) (an .tt aH) rfl bA rfl λ⟨s,r,q,z⟩ I a w xk U=>?_;unfold aM.MJ at U;dsimp only at U;have U:=U.nf;refine U.alloc rfl dz dT λb6 I a w U=>?_;refine bV λI a w U=>?_;refine U.s1 5 λU=>?_;refine aX λI a w U=>?_;refine U.dX [5,1,2,3,4] (ac1 b6 {x with time:=x.time+1} e s r q z hg.later (by show x.time+1<=_;omega)) (an .tt (an .tt aH)) rfl bA rfl λu I a w ais U=>?_;refine al λI a w U=>?_;refine cz (λah=>?_) λah=>?_
 .rw[ah] at U;have U:=U.nf;refine aI λI a w U=>?_;refine U.ret rfl (.cons (.sx 0) (.cons (.t rfl) aZ.nil)) ?_;exact(by unfold kY;rw[PN,if_neg (by rw[ah];simp)];rfl)
 rw[ah] at U;unfold aM.full at U;have U:=U.nf;obtain⟨I,U⟩:=U.fu 1 1 5;obtain⟨I,U⟩:=U.fu 2 2 5;obtain⟨I,U⟩:=U.fu 3 3 5;obtain⟨I,U⟩:=U.fu 4 4 5;have U:=U.nf;refine aI λI a w U=>?_;refine U.ret rfl (.cons (.sx 0) (.cons (.t rfl) aZ.nil)) ?_;exact(by unfold kY;rw[PN,if_pos ⟨by omega,ah⟩];rfl)
def ID (x:aM) (hg:cF x) (ht:x.time<=98000):
 Fn prog 134 [x.av] ((gp 1000 x).av):=by
 refine Fn.go 21 func134 ntmps134 (λW I a U=>?_);refine sr<|U.box rfl .tt λb1 I a w U=>U.alloc rfl dz dT λb2 I a w U=>?_;refine al λI a w U=>?_;refine St.lo (σ:=Nat×aM) (run 17 3 []) ⟨λ⟨k,y⟩=>[(3,AV.int k)],λ⟨k,y⟩=>[Own.box b1 28 y.cells,Own.box b2 28 [AV.val (.int .i64 0),AV.rows 7 [],AV.rows 15 [],AV.rows 13 [],AV.rows 1 []]],λ⟨k,y⟩=>k<=1000/\vA x y k⟩ (λ⟨k,y⟩=>1000-k) (0,x) U ?aD ?bh;case aD=>exact⟨by omega,hg,by omega,rfl⟩
 rintro⟨k,y⟩ I a w aj U;obtain⟨hk,hp⟩:=aj;have vC:=hp.time;have j4:=hp.cX.aC;dsimp only at U;refine et λI a w U=>?_;refine uz (λab=>?_) λab=>?_
 .obtain⟨h1,h2⟩:=ab;refine aX λI a w U=>?_;refine U.o (.bd n6 (.k bf.nil)) λU=>?_;refine U.o (bx (xy y (ev 4 0 0) hp.cX om) (an (.t rfl) (an (.t rfl) aH))) λU=>?_;refine fW λI a w U=>?_;rw[AB om] at U;exact U.ag (k+1,ga y (ev 4 0 0)) (⟨by show k+1<=1000;omega,hp.next ht om om⟩)
 simp only[B,Bool.and_eq_false_iff] at ab;refine wp_exit<|bU<|bU<|eb<|ba<|wp_seq ?_;have hy:=(hp.stop om).symm;subst hy;refine ax λI a w U=>?_;refine U.ret rfl (.cons (.sx 1) aZ.nil) ?_;rfl
def ada (x:aM) (hg:cF x) (ht:x.time<=80000):
 Fn prog 63 [x.av] ((oS x).av):=by
 refine Fn.go 46 func63 ntmps63 (λW I a U=>?_);refine sr<|U.box rfl .tt λb1 I a w U=>U.alloc rfl dz dT λb2 I a w U=>?_;refine al λI a w U=>?_;refine St.lo (σ:=Nat×aM) (3::(run 11 6 [])) ⟨λ⟨k,y⟩=>[(6,AV.int k)],λ⟨k,y⟩=>[Own.box b1 28 y.cells,Own.box b2 28 [AV.val (.int .i64 0),AV.rows 7 [],AV.rows 15 [],AV.rows 13 [],AV.rows 1 []]],λ⟨k,y⟩=>k<=4/\pW (λ(w:aM) (i:Nat)=>ga w (ev 7 i 0)) 1 x y k⟩ (λ⟨k,y⟩=>4-k) (0,x) U ?aD ?bh;case aD=>exact⟨by omega,.zero (by assumption)⟩
 rintro⟨k,y⟩ I a w aj U;obtain⟨hk,hp⟩:=aj;have vC:=hp.time;have pX:=hp.cX;dsimp only at U;refine al λI a w U=>?_;refine cz (λab=>?_) λab=>?_
 .refine aR λI a w U=>?_;refine U.o (.bd n6 (.k (.k bf.nil))) λU=>?_;refine U.o (bx (xy y (ev 7 k 0) hp.cX om) (an (.t rfl) (an (.t rfl) aH))) λU=>?_;refine aU λI a w U=>?_;rw[AB om] at U;refine ax λI a w U=>?_;exact U.ag (k+1,ga y (ev 7 k 0)) (⟨by show k+1<=4;omega,hp.next (pV pX om _) (mz y _)⟩)
 refine wp_exit<|bU<|bU<|eb<|ba<|wp_seq ?_;obtain rfl:k=4:=by omega
 have hy:j0 x=y:=hp.eq.symm;subst hy;have mA:=hp.cX;have AJ:=hp.time;refine aX λI a w U=>?_;refine U.o (bx (ID (j0 x) mA om) (an (.t rfl) aH)) λU=>?_;refine al λI a w U=>?_;have qX:=sB mA om;have ac5:=qX.1;have ac6:=qX.2;refine al λI a w U=>?_;refine St.lo (σ:=Nat×aM) (4::(run 13 19 [])) ⟨λ⟨k,y⟩=>[(19,AV.int k)],λ⟨k,y⟩=>[Own.box b1 28 y.cells,Own.box b2 28 [AV.val (.int .i64 0),AV.rows 7 [],AV.rows 15 [],AV.rows 13 [],AV.rows 1 []]],λ⟨k,y⟩=>k<=4/\pW lT 1001 (gp 1000 (j0 x)) y k⟩ (λ⟨k,y⟩=>4-k) (0,(gp 1000 (j0 x))) U ?eL ?jX;case eL=>exact⟨by omega,.zero (by assumption)⟩
 rintro⟨k,y⟩ I a w aj U;obtain⟨hk,hp⟩:=aj;have vC:=hp.time;have pX:=hp.cX;dsimp only at U;refine al λI a w U=>?_;refine cz (λah=>?_) λah=>?_
 .refine aR λI a w U=>?_;refine U.o (.bd n6 (.k (.k bf.nil))) λU=>?_;refine U.o (bx (xy y (ev 8 k 0) hp.cX om) (an (.t rfl) (an (.t rfl) aH))) λU=>?_;refine aU λI a w U=>?_;rw[AB om] at U;have hl:=pV pX om (ev 8 k 0);have bW:=mz y (ev 8 k 0);have hd:=sB hl om;refine U.o (.ls 0) λU=>?_;refine U.o (bx (ID (ga y (ev 8 k 0)) hl om) (an (.t rfl) aH)) λU=>?_;refine aI λI a w U=>?_;rw[DB] at U;exact U.ag (k+1,lT y k) (⟨by show k+1<=4;omega,hp.next hd.1 (by have:=hd.2;rw[DB] at this;omega)⟩)
 refine wp_exit<|bU<|bU<|eb<|ba<|wp_seq<|wp_seq ?_;obtain rfl:k=4:=by omega
 have hy:((List.range 4).foldl lT (gp 1000 (j0 x)))=y:=hp.eq.symm;subst hy;have hg3:=hp.cX;have ht3:=hp.time;refine al λI a w U=>?_;refine St.lo (σ:=Nat×aM) (5::(run 13 32 [])) ⟨λ⟨k,y⟩=>[(32,AV.int k)],λ⟨k,y⟩=>[Own.box b1 28 y.cells,Own.box b2 28 [AV.val (.int .i64 0),AV.rows 7 [],AV.rows 15 [],AV.rows 13 [],AV.rows 1 []]],λ⟨k,y⟩=>k<=2/\pW sA 1001 ((List.range 4).foldl lT (gp 1000 (j0 x))) y k⟩ (λ⟨k,y⟩=>2-k) (0,((List.range 4).foldl lT (gp 1000 (j0 x)))) U ?iA ?oL;case iA=>exact⟨by omega,.zero (by assumption)⟩
 rintro⟨k,y⟩ I a w aj U;obtain⟨hk,hp⟩:=aj;have vC:=hp.time;have pX:=hp.cX;dsimp only at U;refine al λI a w U=>?_;refine cz (λai=>?_) λai=>?_
 .refine aR λI a w U=>?_;refine U.o (.bd n6 (.k (.k bf.nil))) λU=>?_;refine U.o (bx (xy y (ev 2 0 k) hp.cX om) (an (.t rfl) (an (.t rfl) aH))) λU=>?_;refine aU λI a w U=>?_;rw[AB om] at U;have hl:=pV pX om (ev 2 0 k);have bW:=mz y (ev 2 0 k);have hd:=sB hl om;refine U.o (.ls 0) λU=>?_;refine U.o (bx (ID (ga y (ev 2 0 k)) hl om) (an (.t rfl) aH)) λU=>?_;refine aI λI a w U=>?_;rw[DC] at U;exact U.ag (k+1,sA y k) (⟨by show k+1<=2;omega,hp.next hd.1 (by have:=hd.2;rw[DC] at this;omega)⟩)
 refine wp_exit<|bU<|bU<|eb<|ba<|wp_seq ?_;obtain rfl:k=2:=by omega
 have hy:oS x=y:=hp.eq.symm;subst hy;refine ax λI a w U=>?_;refine U.ret rfl (.cons (.sx 1) aZ.nil) ?_;rfl
def Qc (x:aM) (r:Int) (hf:x.Fit) (hl:x.calls.length<=1048576):
 bG prog 18 [x.av,AV.int r] [] (λt:NT=>t.plain=iL x r) (λt=>t.owns KK) (λt=>AV.agg t.cells):=by
 refine bG.intro 25 func18 rfl ntmps18 rfl aq (λW I a U=>?_);refine sr<|U.box rfl .tt λb2 I a w U=>U.alloc rfl dz ny λb4 I a w U=>?_;refine aX λI a w U=>?_;refine U.o (.c1 (PU x hf hl)) λU=>?_;refine al λI a w U=>?_;refine cz (λab=>?_) λab=>?_
 .refine zt ?_;refine U.o (.bd ny bf.nil) λU=>?_;refine al λI a w U=>?_;have U:=U.oa KK.server 7 ST.cells (ST.owns KK);have U:=U.oa KK.word 15 WT.cells (WT.owns KK);have U:=U.oa KK.call 13 CT.cells (CT.owns KK);have U:=U.oa KK.seen 1 DT.cells (DT.owns KK);refine U.cE N0 [2,3,4,5] rfl (.cons (.sx 1) .nil) (by rw[P4 r ab];rfl) rfl rfl
 have rv:=lS.1 ab;have hg:=rv.1;refine al λI a w U=>?_;refine St.lo (σ:=Nat×aM) (5::(run 13 10 [])) ⟨λ⟨k,y⟩=>[(5,AV.int k)],λ⟨k,y⟩=>[Own.box b2 28 y.cells,Own.box b4 28 [AV.int 0,AV.val (.slice none 0 0),AV.val (.slice none 0 0),AV.val (.slice none 0 0),AV.val (.slice none 0 0)]],λ⟨k,y⟩=>k<=40/\vB (min r 40).toNat x y k⟩ (λ⟨k,y⟩=>40-k) (0,x) U ?aD ?bh;case aD=>exact⟨by omega,hg,rv.2,rfl⟩
 rintro⟨k,y⟩ I a w aj U;obtain⟨hk,hp⟩:=aj;dsimp only at U;refine aA λI a w U=>?_;refine U.o (Z3 .tt .c) λU=>?_;refine gy λI a w U=>?_;refine uz (λah=>?_) λah=>?_
 .obtain⟨h1,h2⟩:=ah;refine aX λI a w U=>?_;refine U.o (bx (ada y hp.cX om) (an (.t rfl) aH)) λU=>?_;refine aU λI a w U=>?_;exact U.ag (k+1,oS y) (⟨by show k+1<=40;omega,hp.next om om⟩)
 simp only[B,Bool.and_eq_false_iff] at ah;refine wp_exit<|bU<|bU<|eb<|ba<|wp_seq ?_;have hy:=hp.stop om;refine aX λI a w U=>?_;refine U.dX [] (HM y hp.cX.small) (an .tt aH) rfl bA rfl λt I a w adb U=>?_;change St _ _ ([Own.box b2 28 y.cells,Own.box b4 28 [AV.int 0,AV.val (.slice none 0 0),AV.val (.slice none 0 0),AV.val (.slice none 0 0),AV.val (.slice none 0 0)]]++t.owns KK) _ _ _ at U;refine al λI a w U=>?_;refine U.cE t [2,3,4,5] rfl (.cons (.sx 1) .nil) (by rw[P3 r ab,<-hy];exact adb) rfl rfl
def Qn (x:aM) (r:Int) (hd:x.Deep):
 Fn prog 13 [x.av,AV.int r] (AV.bool true):=by
 refine Fn.go 74 func13 ntmps13 (λW I a U=>?_);refine bV λI a w U=>?_;refine U.o (bx (Py _ _ om om) (an (.t rfl) (an (.t rfl) aH))) λU=>?_;refine aI λI a w U=>?_;refine cz (λab=>?_) λab=>?_
 .refine aW ?_;rfl
 refine wp_skip<|ba<|wp_seq ?_;have hw:=OZ ab;have dV:=OY hw;have il:=NF hd;have HG:=O2 hw;have hsx:=O3 hw;obtain⟨Qd,Qe⟩:=It (ac0 x r);obtain⟨l1,l2⟩:=And.intro (zb 1 x) (zb 1 (iL x r));refine aX λI a w U=>?_;refine U.o (bx (xw x hw) (an .tt aH)) λU=>U.m λU=>U.o (.c2 (ac9 x r dV.2)) λU=>U.alloc rfl dz dT λb6 I a w U=>?_;refine al λI a w U=>?_;obtain⟨I,U⟩:=U.fb 0 6;have U:=U.drop 0;refine U.o .la λU=>?_;refine U.dX [] (Ih x hw) (an .tt aH) rfl bA rfl λt I a w adf U=>?_;have q4:=adf;change St _ _ (t.owns KK) _ _ _ at U;refine U.alloc rfl dz dT λb7 I a w U=>?_;refine al λI a w U=>?_;obtain⟨I,U⟩:=U.fb 4 7;have U:=U.drop 4;change St _ _ (t.owns KK) _ _ _ at U;refine aA λI a w U=>?_;refine U.Fu (xs:=[t.av,AV.int r]) (gi:=[x.av,AV.int r]) (Qc x r il dV.1) (an .tt (an .tt aH)) (qm 0 rfl q4) rfl rfl (λ_ _=>NT.Fv _) (λg _=>flat_agg g.FJ) λg I a w ju U=>?_;change St _ _ (t.owns KK++g.owns KK) _ _ _ at U;refine U.alloc rfl dz dT λb8 I a w U=>?_;refine U.sb 8 λU=>?_;obtain⟨I,U⟩:=U.fb 8 8;refine wpList_nil ?_;have U:=U.drop 8;change St _ _ (t.owns KK++g.owns KK) _ _ _ at U;refine aA λI a w U=>?_;refine U.o (nx (xs:=[g.av,(iL x r).av]) (gi:=[(iL x r).av,(iL x r).av]) (pT (iL x r)) (an .tt (an .tt aH)) (λc I a w U=>by exact qm 4 rfl ju c I a w U)) λU=>?_;refine al λI a w U=>?_;refine U.cd (λah=>?_) λah=>?_
 .exfalso;simp at ah;skip
 refine wp_skip<|ba<|wp_seq<|wp_seq<|U.dk ?_;refine cy ?_;refine .o (bx (xw x hw) (an .tt aH)) ?_;refine .o (nx (xs:=[t.av,x.av]) (gi:=[x.av,x.av]) (pT x) (an .tt (an .tt aH)) (λc I a w U=>by exact qm 0 rfl q4 c I a w U)) ?_;refine br ?_;refine .nil ?_;intro I a w U;refine ba ?_;refine U.cd (λai=>?_) λai=>?_
 .exfalso;simp at ai;skip
 refine aV λI a w U=>?_;refine U.eX [0,1,2,3] (zO 1 t (by rw[q4];omega) (by rw[z8 q4];omega)) (an .tt (an .tt aH)) rfl bA rfl λI a w U=>?_;change St _ _ ((jz 1 t).1.owns KK++g.owns KK) _ _ _ at U;refine al λI a w U=>?_;obtain⟨m1,m2⟩:=CH q4 1;refine bV λI a w U=>?_;refine U.q .F (nx (xs:=[g.av,(iL x r).av]) (gi:=[(iL x r).av,(iL x r).av]) (pT (iL x r)) (an .ag (an .ag aH)) (λc I a w U=>by exact qm 4 rfl ju c I a w U)) λU=>?_;refine ax λI a w U=>?_;refine U.cd (λaG=>?_) λaG=>?_
 .exfalso;simp at aG;omega;skip
 refine aV λI a w U=>?_;refine U.eX [4,5,6,7] (zO 1 g (by rw[ju];omega) (by rw[z8 ju];omega)) (an .tt (an .tt aH)) rfl bA rfl λI a w U=>?_;change St _ _ ((jz 1 t).1.owns KK++(jz 1 g).1.owns KK) _ _ _ at U;refine al λI a w U=>?_;obtain⟨m3,m4⟩:=CH ju 1;obtain⟨I,U⟩:=U.FK (t:=(jz 1 g).1) 4 8 rfl rfl;change St _ _ ((jz 1 t).1.owns KK) _ _ _ at U;rw[m3] at U;refine aV λI a w U=>?_;refine U.o (bx (xp 1 (iL x r) om om) (an (.t rfl) (an (.t rfl) aH))) λU=>?_;refine aI λI a w U=>?_;refine U.cd (λaL=>?_) λaL=>?_
 .exfalso;simp at aL;omega;skip
 refine aI λI a w U=>?_;refine U.cd (λbc=>?_) λbc=>?_
 .exfalso;rw[m4] at bc;simp at bc;skip
 refine aX λI a w U=>?_;refine U.o (bx (xw x hw) (an .tt aH)) λU=>U.m λU=>U.o (bx ((Qc x r il dV.1).FI) (an .tt (an .tt aH))) λU=>U.alloc rfl dz dT λr9 I a w U=>?_;refine al λI a w U=>?_;obtain⟨I,U⟩:=U.fb 4 12;have U:=U.drop 4;change St _ _ ((jz 1 t).1.owns KK) _ _ _ at U;refine aA λI a w U=>?_;refine U.o (.c2 (pT (iL x r))) λU=>?_;refine al λI a w U=>?_;refine U.cd (λaY=>?_) λaY=>?_
 .exfalso;simp at aY;skip
 refine aV λI a w U=>?_;refine U.o (bx (xp 1 (iL x r) om om) (an (.t rfl) (an (.t rfl) aH))) λU=>?_;refine aI λI a w U=>?_;refine U.cd (λbz=>?_) λbz=>?_
 .exfalso;simp at bz;omega;skip
 refine aI λI a w U=>?_;refine U.cd (λbR=>?_) λbR=>?_
 .exfalso;rw[m4] at bR;simp at bR;skip
 refine aW ?_;rfl
def adg (l:List Ev) (h:l.length<=2000):
 bG prog 25 [AV.rows 11 (l.map Ev.cells)] [] (λt:NT=>t.plain=jq l) (λt=>t.owns KK) (λt=>AV.agg t.cells):=by
 refine bG.intro 26 func25 rfl ntmps25 rfl aq (λW I a U=>?_);have hle:=U.dD (t:=0) rfl;refine sr<|U.alloc rfl dz dT λb2 I a w U=>?_;refine zt ?_;refine U.o (.cl (X9 ..)) λU=>?_;refine U.alloc rfl dz dT λb3 I a w U=>?_;refine aU λI a w U=>?_;refine KC (λab=>?_) λab=>?_
 .exfalso;simp only[B] at ab;omega;skip
 refine aI λI a w U=>?_;refine St.lo (σ:=Nat) (5::(run 11 13 [])) ⟨λk=>[(13,AV.int k)],λk=>[Own.box b2 28 [AV.val (.int .i64 0),AV.rows 7 [],AV.rows 15 [],AV.rows 13 [],AV.rows 1 []],Own.box b3 28 (wK l k).cells],λk=>k<=l.length⟩ (λk=>l.length-k) 0 U ?aD ?bh;case aD=>exact Nat.zero_le _
 rintro k I a w aj U;have hk:k<=l.length:=aj;have hg:=lS.1 (DA l k);dsimp only at U;refine al λI a w U=>?_;refine cz (λah=>?_) λah=>?_
 .refine aA λI a w U=>?_;refine U.alloc rfl ll n6 λb5 I a w U=>?_;refine al λI a w U=>?_;obtain⟨I,U⟩:=U.fb 2 5;refine aA λI a w U=>?_;refine U.o (.c2 (xy (wK l k) (ae l k) hg.1 hg.2)) λU=>?_;refine gy λI a w U=>?_;have U:=U.drop 2;rw[acM ah] at U;exact U.ag (k+1) (ah)
 refine zt ?_;refine U.o (.ls 1) λU=>?_;refine U.dX [] (HM (wK l k) hg.1.small) (an .tt aH) rfl bA rfl λt I a w adh U=>?_;change St _ _ ([Own.box b2 28 [AV.val (.int .i64 0),AV.rows 7 [],AV.rows 15 [],AV.rows 13 [],AV.rows 1 []],Own.box b3 28 (wK l k).cells]++t.owns KK) _ _ _ at U;refine al λI a w U=>?_;refine U.cE t [2,3,4,5] rfl (.cons (.sx 0) .nil) (by rw[<-Ip (l:=l) (k:=k) om om];exact adh) rfl rfl
def Qf (l:List Ev):bG prog 25 [o5 l] [] (λt:NT=>t.plain=jq l) (λt=>t.owns KK) (λt=>AV.agg t.cells):=by
 by_cases h:2000<l.length
 .exact acG l h
 exact adg l om
def Qq (l:List Ev):
 Fn prog 12 [o5 l] (AV.bool true):=by
 refine Fn.go 69 func12 ntmps12 (λW I a U=>?_);refine aR λI a w U=>?_;refine U.o (bx (Wp l _ om om) (an .r (an (.t rfl) aH))) λU=>?_;refine aI λI a w U=>?_;refine cz (λab=>?_) λab=>?_
 .refine aW ?_;rfl
 refine wp_skip<|ba<|wp_seq ?_;have hw:l.length<=1048576:=by have:=ML ab;omega
 have hme:=Xy (k:=1) (l:=l);obtain⟨Qd,Qe⟩:=It (.inl (acO l));have l2:=zb 1 (jq l);refine aX λI a w U=>?_;refine U.o (bx (Dd l hw).fn (an .r aH)) λU=>?_;refine U.o (.cl (ac3 l)) λU=>?_;refine U.alloc rfl dz dT λb4 I a w U=>?_;refine al λI a w U=>?_;obtain⟨I,U⟩:=U.fb 0 4;have U:=U.drop 0;refine U.m λU=>?_;refine U.gh (Dd l hw) (an .r aH) rfl λI v20 a w U=>?_;refine aA λI a w U=>?_;refine U.Fu (xs:=[AV.val v20]) (gi:=[o5 l]) (Qf l) (an .tt aH) (λc I a w U=>by obtain⟨I,U⟩:=U.fr 0 0;exact⟨I,_,_,U,rfl,trivial⟩) rfl rfl (λ_ _=>NT.Fv _) (λg _=>flat_agg g.FJ) λg I a w ju U=>?_;change St _ _ ([Own.row v20 49 11 (l.map Ev.cells)]++g.owns KK) _ _ _ at U;refine U.alloc rfl dz dT λb6 I a w U=>?_;refine al λI a w U=>?_;obtain⟨I,U⟩:=U.fb 5 6;have U:=U.drop 5;change St _ _ ([Own.row v20 49 11 (l.map Ev.cells)]++g.owns KK) _ _ _ at U;refine aA λI a w U=>?_;refine U.o (nx (xs:=[g.av,(jq l).av]) (gi:=[(jq l).av,(jq l).av]) (pT (jq l)) (an .tt (an .tt aH)) (λc I a w U=>by exact qm 1 rfl ju c I a w U)) λU=>?_;refine al λI a w U=>?_;refine U.cd (λah=>?_) λah=>?_
 .exfalso;simp at ah;skip
 refine aA λI a w U=>?_;refine U.o (bx (Dd l hw).fn (an .r aH)) λU=>?_;refine U.o (nx (xs:=[AV.val v20,o5 l]) (gi:=[o5 l,o5 l]) (Xw l) (an .r (an .r aH)) (λc I a w U=>by obtain⟨I,U⟩:=U.fr 0 0;exact⟨I,_,_,U,rfl,rfl,trivial⟩)) λU=>?_;refine al λI a w U=>?_;refine U.cd (λai=>?_) λai=>?_
 .exfalso;simp at ai;skip
 refine aV λI a w U=>?_;refine U.eX [0] (Xx v20 1 l om) (an .r (an .tt aH)) rfl bA rfl λI a w U=>?_;change St _ _ ([Own.row v20 49 11 ((aN mw 1 l).1.map Ev.cells)]++g.owns KK) _ _ _ at U;refine df λI a w U=>?_;refine U.q .F (nx (xs:=[g.av,(jq l).av]) (gi:=[(jq l).av,(jq l).av]) (pT (jq l)) (an .ag (an .ag aH)) (λc I a w U=>by exact qm 1 rfl ju c I a w U)) λU=>?_;refine ax λI a w U=>?_;refine U.cd (λaG=>?_) λaG=>?_
 .exfalso;simp at aG;omega;skip
 refine aV λI a w U=>?_;refine U.eX [1,2,3,4] (zO 1 g (by rw[ju];omega) (by rw[z8 ju];omega)) (an .tt (an .tt aH)) rfl bA rfl λI a w U=>?_;change St _ _ ([Own.row v20 49 11 ((aN mw 1 l).1.map Ev.cells)]++(jz 1 g).1.owns KK) _ _ _ at U;refine al λI a w U=>?_;obtain⟨m3,m4⟩:=CH ju 1;obtain⟨I,U⟩:=U.FK (t:=(jz 1 g).1) 1 6 rfl rfl;change St _ _ ([Own.row v20 49 11 ((aN mw 1 l).1.map Ev.cells)]) _ _ _ at U;rw[m3] at U;refine aV λI a w U=>?_;refine U.o (bx (xp 1 (jq l) om om) (an (.t rfl) (an (.t rfl) aH))) λU=>?_;refine aI λI a w U=>?_;refine U.cd (λaL=>?_) λaL=>?_
 .exfalso;simp at aL;omega;skip
 refine aI λI a w U=>?_;refine U.cd (λbc=>?_) λbc=>?_
 .exfalso;rw[m4] at bc;simp at bc;skip
 refine aX λI a w U=>?_;refine U.o (bx (Dd l hw).fn (an .r aH)) λU=>?_;refine U.o (bx (Qf l).FI (an .r aH)) λU=>?_;refine U.alloc rfl dz dT λjD I a w U=>?_;refine al λI a w U=>?_;obtain⟨I,U⟩:=U.fb 1 10;have U:=U.drop 1;change St _ _ ([Own.row v20 49 11 ((aN mw 1 l).1.map Ev.cells)]) _ _ _ at U;refine aA λI a w U=>?_;refine U.o (.c2 (pT (jq l))) λU=>?_;refine al λI a w U=>?_;refine U.cd (λaY=>?_) λaY=>?_
 .exfalso;simp at aY;skip
 refine aV λI a w U=>?_;refine U.o (bx (xp 1 (jq l) om om) (an (.t rfl) (an (.t rfl) aH))) λU=>?_;refine aI λI a w U=>?_;refine U.cd (λbz=>?_) λbz=>?_
 .exfalso;simp at bz;omega;skip
 refine aI λI a w U=>?_;refine U.cd (λbR=>?_) λbR=>?_
 .exfalso;rw[m4] at bR;simp at bR;skip
 refine aW ?_;rfl
end Go.Proofs.YtldbakcpcfdlaaaGreat
