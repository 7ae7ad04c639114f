/- Part 38: contracts of functions, plain facts. -/
import Derived.Test.YtldbakcpcfdlaaaGreatA32
import Derived.Test.YtldbakcpcfdlaaaGreatA34
set_option linter.all false
set_option maxRecDepth 100000
set_option maxHeartbeats 4000000
namespace Go.Proofs.YtldbakcpcfdlaaaGreat
open Go Go.RowKit Tryz
attribute [local irreducible] wpList Code.wp Ok
def aeg (m:aw):
 Fn prog 151 [m.av,m.av] (AV.bool true):=by
 refine Fn.go 101 func151 ntmps151 (λW I a U=>?_);refine D1 λI a w U=>?_;refine tb λI a w U=>?_;refine U.q .T (lF [_,_] [_,_] mu rfl rfl .ag .ag) λU=>?_;refine tc λI a w U=>?_;refine U.q .T (Jd .ag .ag xE) λU=>?_;refine Sy λI a w U=>?_;refine U.q .T (.cl (sF ..)) λU=>?_;refine dp λI a w U=>?_;refine U.q .T (.cl (Cg ..)) λU=>?_;refine dp λI a w U=>?_;refine U.q .T (.cl (Cg ..)) λU=>?_;refine dp λI a w U=>?_;refine U.q .T (.cl (sF ..)) λU=>?_;refine dh ?_;exact bI bt
def aeh (l:List aw):
 Fn prog 74 [cU l,cU l] (AV.bool true):=by
 refine Fn.go 27 func74 ntmps74 (λW I a U=>?_);have hle:=U.eh (t:=0) rfl;refine iU λI a w U=>?_;refine U.cd (λae=>?_) λae=>?_
 .exfalso;simp at ae;skip
 refine ao λI a w U=>?_;refine St.lo (σ:=Nat) (run 2 4 (run 16 11 [])) ⟨λk=>[(5,AV.int k)],λk=>[],λk=>k<=l.length⟩ (λk=>l.length-k) 0 U ?aH ?bx;case aH=>exact Nat.zero_le _
 rintro k I a w al U;have hk:k<=l.length:=al;refine aV λI a w U=>?_;refine cz (λah=>?_) λah=>?_
 .refine zt ?_;refine U.dk ?_;refine mn ?_;refine .o (.c2 (aeg (ab l k))) ?_;refine aW ?_;refine .nil ?_;intro I a w U;refine ba ?_;refine U.cd (λaj=>?_) λaj=>?_
  .exfalso;simp at aj;skip
  refine aM λI a w U=>?_;exact U.ag (k+1) (ah)
 refine zt ?_;refine bk ?_;rfl
def aei (s:Server) (hl:s.aN.length<=1048576):
 Fn prog 75 [s.av,s.av] (AV.bool true):=by
 refine Fn.go 77 func75 ntmps75 (λW I a U=>?_);refine tc λI a w U=>?_;refine U.q .F (De .ag .ag xE) λU=>?_;refine Ab λI a w U=>?_;refine U.q .F (.cl (Cg ..)) λU=>?_;refine fm λI a w U=>?_;refine U.q .F (.cl (Cg ..)) λU=>?_;refine fm λI a w U=>?_;refine U.q .F (.cl (sF ..)) λU=>?_;refine fm λI a w U=>?_;refine U.q .F (.cl (sF ..)) λU=>?_;refine aq λI a w U=>?_;refine U.cd (λae=>?_) λae=>?_
 .exfalso;simp at ae;skip
 refine ao λI a w U=>?_;refine St.lo (σ:=Nat) (run 2 4 (run 18 59 [])) ⟨λk=>[(5,AV.int k)],λk=>[],λk=>k<=s.aN.length⟩ (λk=>s.aN.length-k) 0 U ?aH ?bx;case aH=>exact Nat.zero_le _
 rintro k I a w al U;have hk:k<=s.aN.length:=al;refine cn λI a w U=>?_;refine cz (λah=>?_) λah=>?_
 .refine zt ?_;refine U.dk ?_;refine mo ?_;refine .o (sR [_,_] [_,_] Kr rfl rfl .tt .tt)<|.nil ?_;intro I a w U;refine ba ?_;refine U.cd (λaj=>?_) λaj=>?_
  .exfalso;simp at aj;skip
  refine aM λI a w U=>?_;exact U.ag (k+1) (ah)
 refine zt ?_;refine bk ?_;rfl
def aej (l:List Answer):
 Fn prog 152 [nL l,nL l] (AV.bool true):=by
 refine Fn.go 55 func152 ntmps152 (λW I a U=>?_);have hle:=U.eh (t:=0) rfl;refine iU λI a w U=>?_;refine U.cd (λae=>?_) λae=>?_
 .exfalso;simp at ae;skip
 refine ao λI a w U=>?_;refine St.lo (σ:=Nat) (run 2 4 (run 44 11 [])) ⟨λk=>[(5,AV.int k)],λk=>[],λk=>k<=l.length⟩ (λk=>l.length-k) 0 U ?aH ?bx;case aH=>exact Nat.zero_le _
 rintro k I a w al U;have hk:k<=l.length:=al;refine aV λI a w U=>?_;refine cz (λah=>?_) λah=>?_
 .refine zt ?_;refine U.dk ?_;refine mq ?_;refine gw ?_;refine .q .F (De .ag .ag xE) ?_;refine Af ?_;refine .q .F (.cl (Pt ..)) ?_;refine cg ?_;refine .nil ?_;intro I a w U;refine ba ?_;refine U.cd (λaj=>?_) λaj=>?_
  .exfalso;simp at aj;skip
  refine aM λI a w U=>?_;exact U.ag (k+1) (ah)
 refine zt ?_;refine bk ?_;rfl
def aek (q:Call) (hl:q.keys.length<=1048576):
 Fn prog 76 [q.av,q.av] (AV.bool true):=by
 refine Fn.go 111 func76 ntmps76 (λW I a U=>?_);refine D1 λI a w U=>?_;refine Sx λI a w U=>?_;refine U.q .F (De .ag .ag xE) λU=>?_;refine dp λI a w U=>?_;refine U.q .F (sR [_,_] [_,_] mu rfl rfl .ag .ag) λU=>?_;refine Ab λI a w U=>?_;refine U.q .F (.cl (sF ..)) λU=>?_;refine fm λI a w U=>?_;refine U.q .F (.cl (sF ..)) λU=>?_;refine fm λI a w U=>?_;refine U.q .F (.cl (aej ..)) λU=>?_;refine aq λI a w U=>?_;refine U.cd (λae=>?_) λae=>?_
 .exfalso;simp at ae;skip
 refine ao λI a w U=>?_;refine St.lo (σ:=Nat) (run 2 4 (run 18 93 [])) ⟨λk=>[(5,AV.int k)],λk=>[],λk=>k<=q.keys.length⟩ (λk=>q.keys.length-k) 0 U ?aH ?bx;case aH=>exact Nat.zero_le _
 rintro k I a w al U;have hk:k<=q.keys.length:=al;refine cn λI a w U=>?_;refine cz (λah=>?_) λah=>?_
 .refine ao λI a w U=>?_;refine U.cd (λaj=>?_) λaj=>?_
  .exfalso;simp at aj;skip
  refine aM λI a w U=>?_;exact U.ag (k+1) (ah)
 refine zt ?_;refine bk ?_;rfl
def PZ (x:aJ) (h:sj x):
 Fn prog 24 [x.av,x.av] (AV.bool true):=by
 refine Fn.go 105 func24 ntmps24 (λW I a U=>?_);obtain⟨⟨h1,h2⟩,⟨h3,h4⟩,⟨h5,h6⟩,h7,h8⟩:=h;refine D1 λI a w U=>?_;refine j3 λI a w U=>?_;refine U.q .F (.cl (aeh ..)) λU=>?_;refine aq λI a w U=>?_;refine U.cd (λae=>?_) λae=>?_
 .exfalso;simp at ae;skip
 refine ao λI a w U=>?_;refine St.lo (σ:=Nat) (run 2 4 (run 19 48 [])) ⟨λk=>[(5,AV.int k)],λk=>[],λk=>k<=x.aC.length⟩ (λk=>x.aC.length-k) 0 U ?aH ?bx;case aH=>exact Nat.zero_le _
 rintro k I a w al U;have hk:k<=x.aC.length:=al;refine cn λI a w U=>?_;refine cz (λah=>?_) λah=>?_
 .refine zt ?_;refine U.dk ?_;refine mo ?_;refine .o (.c2 (aei (ab x.aC k) (h2 _ (bB ah)).1)) ?_;refine aW ?_;refine .nil ?_;intro I a w U;refine ba ?_;refine U.cd (λaj=>?_) λaj=>?_
  .exfalso;simp at aj;skip
  refine aM λI a w U=>?_;exact U.ag (k+1) (ah)
 refine zt ?_;refine ao λI a w U=>?_;refine St.lo (σ:=Nat) (4::(6::(run 19 67 []))) ⟨λk=>[(6,AV.int k)],λk=>[],λk=>k<=x.calls.length⟩ (λk=>x.calls.length-k) 0 U ?dC ?iJ;case dC=>exact Nat.zero_le _
 rintro k I a w al U;have hk:k<=x.calls.length:=al;refine cn λI a w U=>?_;refine cz (λaG=>?_) λaG=>?_
 .refine zt ?_;refine U.dk ?_;refine mo ?_;refine .o (.c2 (aek (ab x.calls k) (h6 _ (bB aG)).1)) ?_;refine aW ?_;refine .nil ?_;intro I a w U;refine ba ?_;refine U.cd (λaK=>?_) λaK=>?_
  .exfalso;simp at aK;skip
  refine aM λI a w U=>?_;exact U.ag (k+1) (aG)
 refine zt ?_;refine ao λI a w U=>?_;refine St.lo (σ:=Nat) (4::(7::(run 19 86 []))) ⟨λk=>[(7,AV.int k)],λk=>[],λk=>k<=x.seen.length⟩ (λk=>x.seen.length-k) 0 U ?fU ?kT;case fU=>exact Nat.zero_le _
 rintro k I a w al U;have hk:k<=x.seen.length:=al;refine cn λI a w U=>?_;refine cz (λbh=>?_) λbh=>?_
 .refine zt ?_;refine U.dk ?_;refine mo ?_;refine .o (.cl (sF (ab x.seen k))) ?_;refine aW ?_;refine .nil ?_;intro I a w U;refine ba ?_;refine U.cd (λaZ=>?_) λaZ=>?_
  .exfalso;simp at aZ;skip
  refine aM λI a w U=>?_;exact U.ag (k+1) (bh)
 refine zt ?_;refine bk ?_;rfl
def ael (x:aJ) (h:sj x):
 bJ prog 84 [x.av] [] (λ_=>True) x.Cl x.PC:=by
 refine bJ.intro 69 func84 rfl ntmps84 rfl aP (λW I a U=>?_);obtain⟨⟨h1,h2⟩,⟨h3,h4⟩,⟨h5,h6⟩,h7,h8⟩:=h;have U:=U.fC (sz:=7) 95;have U:=U.fC (sz:=13) 45;have U:=U.fC (sz:=1) 40;refine bw λI a w U=>?_;refine U.alloc rfl eE eQ λb2 I a w U=>?_;refine zt ?_;have U:=U.fP;have U:=U.fP;have U:=U.fP;refine U.s7 7 _ (rp 4 [([5],some (5,[11])),([6],some (6,[12,11])),([4],some (4,[3]))]) rfl aP aP rfl ?_;simp only[TD];refine dq ?_;refine aI.km 5 rfl rfl (acR x.au h3 h4) (ai .r aB) ?_;refine aI.Ak 6 [11] (λa=>AV.agg [AV.int x.time,AV.val (.slice none 0 0),AV.val (a.tmps.getD 11 undef),AV.val (.slice none 0 0),AV.val (.slice none 0 0)]) rfl rfl rfl rfl (λa b h=>by simp only[List.forall_mem_cons] at h;simp only[h]) rfl (λF a I he=>Ok.to (.bd xC (.k (aT.c Kq rfl .tt (rK (t:=11) he) aT.nil)))) ?_;refine aI.alloc 4 rfl rfl eE eQ<|.nil ?_;intro I a w U;obtain⟨b3,U⟩:=U.lI (d:=3) 4 rfl rfl;change St _ _ [Own.row (.slice none 0 0) 95 7 [],Own.row (.slice none 0 0) 45 13 [],Own.row (.slice none 0 0) 40 1 [],Own.box b2 28 [AV.val (.int .i64 0),AV.rows 7 [],AV.rows 15 [],AV.rows 13 [],AV.rows 1 []],Own.box b3 28 _,Own.row (a.tmps.getD 11 undef) 108 15 (x.au.map aw.cells),Own.is (AV.agg [AV.int x.time,AV.val (.slice none 0 0),AV.val (a.tmps.getD 11 undef),AV.val (.slice none 0 0),AV.val (.slice none 0 0)]) (a.tmps.getD 12 undef)] _ _ _ at U;have U:=U.Al (d:=12) 6 rfl;have U:=U.drop 6;generalize a.tmps.getD 11 undef=v11 at U;show wpList _ _ _ _ _ _;refine aq λI a w U=>?_;refine St.lo (σ:=Nat×Value) (4::(run 18 13 [])) ⟨λ⟨k,p⟩=>[(4,AV.int k)],λ⟨k,p⟩=>[Own.row p 95 7 ((x.aC.take k).map Server.cells),Own.row (.slice none 0 0) 45 13 ([]),Own.row (.slice none 0 0) 40 1 ([]),Own.box b2 28 [AV.val (.int .i64 0),AV.rows 7 [],AV.rows 15 [],AV.rows 13 [],AV.rows 1 []],Own.box b3 28 [AV.int x.time,AV.val p,AV.val v11,AV.val (.slice none 0 0),AV.val (.slice none 0 0)],Own.row v11 108 15 (x.au.map aw.cells)],λ⟨k,p⟩=>k<=x.aC.length⟩ (λ⟨k,p⟩=>x.aC.length-k) (0,(.slice none 0 0)) U ?aH ?bx;case aH=>exact Nat.zero_le _
 rintro⟨k,p⟩ I a w al U;have hk:k<=x.aC.length:=al;dsimp only at U;refine cn λI a w U=>?_;refine cz (λae=>?_) λae=>?_
 .refine zt ?_;refine U.dt 9 ?_;simp only[TD];refine jJ ?_;refine .o (.c1 (v8 _ (h2 _ (bB ae)))) ?_;refine .o (.li [(ab x.aC k).cells] Aj (.u .nil)) ?_;refine .nil ?_;intro I a w U;refine U.ap 0 λtn a w U=>?_;rw[bN,<-dO ae] at U;refine U.o .fv λU=>?_;try have acO:=U.dK 0 rfl
  refine aV λI a w U=>?_;exact U.ag (k+1,tn) (ae)
 refine wp_exit<|cm<|cm<|dS<|ba<|wp_seq<|wp_seq ?_;rw[List.take_of_length_le om] at U;refine ao λI a w U=>?_;refine St.lo (σ:=Nat×Value) (5::(run 18 31 [])) ⟨λ⟨k,q⟩=>[(5,AV.int k)],λ⟨k,q⟩=>[Own.row p 95 7 (x.aC.map Server.cells),Own.row q 45 13 ((x.calls.take k).map Call.cells),Own.row (.slice none 0 0) 40 1 ([]),Own.box b2 28 [AV.val (.int .i64 0),AV.rows 7 [],AV.rows 15 [],AV.rows 13 [],AV.rows 1 []],Own.box b3 28 [AV.int x.time,AV.val p,AV.val v11,AV.val q,AV.val (.slice none 0 0)],Own.row v11 108 15 (x.au.map aw.cells)],λ⟨k,q⟩=>k<=x.calls.length⟩ (λ⟨k,q⟩=>x.calls.length-k) (0,(.slice none 0 0)) U ?dC ?iJ;case dC=>exact Nat.zero_le _
 rintro⟨k,q⟩ I a w al U;have hk:k<=x.calls.length:=al;dsimp only at U;refine cn λI a w U=>?_;refine cz (λah=>?_) λah=>?_
 .refine zt ?_;refine U.dt 9 ?_;simp only[TD];refine jJ ?_;refine .o (.c1 (AR _ (h6 _ (bB ah)))) ?_;refine .o (.li [(ab x.calls k).cells] xD (.u .nil)) ?_;refine .nil ?_;intro I a w U;refine U.ap 1 λyr a w U=>?_;rw[bN,<-dO ah] at U;refine U.o .fv λU=>?_;try have acP:=U.dK 1 rfl
  refine aV λI a w U=>?_;exact U.ag (k+1,yr) (ah)
 refine wp_exit<|cm<|cm<|dS<|ba<|wp_seq<|wp_seq ?_;rw[List.take_of_length_le om] at U;refine ao λI a w U=>?_;refine St.lo (σ:=Nat×Value) (6::(run 19 49 [])) ⟨λ⟨k,r⟩=>[(6,AV.int k)],λ⟨k,r⟩=>[Own.row p 95 7 (x.aC.map Server.cells),Own.row q 45 13 (x.calls.map Call.cells),Own.row r 40 1 ((x.seen.take k).map du),Own.box b2 28 [AV.val (.int .i64 0),AV.rows 7 [],AV.rows 15 [],AV.rows 13 [],AV.rows 1 []],Own.box b3 28 [AV.int x.time,AV.val p,AV.val v11,AV.val q,AV.val r],Own.row v11 108 15 (x.au.map aw.cells)],λ⟨k,r⟩=>k<=x.seen.length⟩ (λ⟨k,r⟩=>x.seen.length-k) (0,(.slice none 0 0)) U ?fU ?kT;case fU=>exact Nat.zero_le _
 rintro⟨k,r⟩ I a w al U;have hk:k<=x.seen.length:=al;dsimp only at U;refine cn λI a w U=>?_;refine cz (λaj=>?_) λaj=>?_
 .refine zt ?_;refine U.dt 10 ?_;simp only[TD];refine cg ?_;refine .o (qm c4 cx) ?_;refine eP ?_;refine .o (xr c4 cx rfl .tt .r (λ_=>by have:=h8 _ (bB aj);simp;omega)) ?_;refine .o (.li [du (ab x.seen k)] Ag (.v .nil)) ?_;refine .nil ?_;intro I a w U;refine U.ap 2 λHF a w U=>?_;rw[bN,<-dO aj] at U;refine U.o .fv λU=>?_;try have acQ:=U.dK 2 rfl
  refine aV λI a w U=>?_;exact U.ag (k+1,HF) (aj)
 refine wp_exit<|cm<|cm<|dS<|ba<|wp_seq ?_;rw[List.take_of_length_le om] at U;refine aq λI a w U=>?_;refine U.bD (p,v11,q,r) [0,5,1,2] rfl (.cons (.sx 3) .nil) trivial rfl rfl
def aem (br:Nat) (code:List UInt8) (p:Int) (hp:0<=p/\p<=1099511000000) (aR:code.length<=1099511627776):fQ prog 163 [AV.val (.pointer (some ⟨br,0,none⟩))] [Own.box br 147 [cy code,AV.int (p)]] [rl br code p (p+4)] (AV.agg Cj):=
 (yG br code p hp aR).Aq (λ_=>rfl) (λx hx I w h=>Co hx I w h) λx hx I v h=>ab7 trivial h
def aen {I:Im} {cs:List Value} (q:Call) (h:bm I (dV q.cells 9 Cj) cs):∃t:cA,True/\bm I ({q with ax:=t}:Call).cells cs:=by
 change bm I [AV.int q.aA,AV.int q.num,AV.int q.kind,gJ q.keys,AV.int q.val,bf q.ctx,AV.int q.bq,AV.int q.end_,AV.bool q.over,mP,mP,nL q.az,bf q.aL] cs at h;obtain⟨u0,us,rfl,h0,h⟩:=h.cN;obtain⟨u1,us,rfl,h1,h⟩:=h.cN;obtain⟨u2,us,rfl,h2,h⟩:=h.cN;obtain⟨u3,us,rfl,h3,h⟩:=h.cN;obtain⟨u4,us,rfl,h4,h⟩:=h.cN;obtain⟨u5,us,rfl,h5,h⟩:=h.cN;obtain⟨u6,us,rfl,h6,h⟩:=h.cN;obtain⟨u7,us,rfl,h7,h⟩:=h.cN;obtain⟨u8,us,rfl,h8,h⟩:=h.cN;obtain⟨u9,us,rfl,⟨⟨k9,_,e9⟩,o9⟩,h⟩:=h.cN;obtain⟨Hd,us,rfl,⟨⟨pW,_,uk⟩,zl⟩,h⟩:=h.cN;obtain⟨PX,us,rfl,uS,h⟩:=h.cN;obtain⟨PY,us,rfl,yo,h⟩:=h.cN;obtain rfl:=h.none;exact⟨⟨k9,pW⟩,trivial,h0,h1,h2,h3,h4,h5,h6,h7,h8,⟨e9,o9⟩,⟨uk,zl⟩,uS,yo,trivial⟩
def P0 {x y:aJ} (h:sj y) (e:x=y):Fn prog 24 [x.av,y.av] (AV.bool true):=by rw[e];exact PZ y h
def adV (b:Nat) (x:aJ) (e:Ev) (s r q z:Value) (hg:cr x) (ht:x.time<=1000000) (hk:e.kind=4):
 bJ prog 233 [AV.val (.pointer (some ⟨b,0,none⟩)),e.av] (x.full b s r q z) (λ_:Value=>True) (λu=>bif (iM x e).2 then(iM x e).1.full b s u q z else[]) (λ_=>AV.bool (iM x e).2):=by
 refine bJ.intro 111 func233 rfl ntmps233 rfl aP (λW I a U=>?_);change St _ _ [Own.box b 28 [AV.int x.time,AV.val s,AV.val r,AV.val q,AV.val z],Own.row s 95 7 (x.aC.map Server.cells),Own.row r 108 15 (x.au.map aw.cells),Own.row q 45 13 (x.calls.map Call.cells),Own.row z 40 1 (x.seen.map du)] _ _ _ at U;have lX:=hg.lens;have B5:=hg.seen;have wB:=hg.time;have iD:=hg.au;have rG:=hg.aC;have qw:(gN x e).length<=60:=(MQ hg e).au;have B3:(List.map aw.cells x.au).length<=60:=by rw[List.length_map];exact iD
 obtain⟨bS,cS,rfl⟩:=U.gv 1 rfl gG;refine aq λI a w U=>?_;refine U.dk ?_;refine gw ?_;refine .o (jY 2 eA .tt rfl) ?_;refine aW ?_;refine .o (.cl (ij ..)) ?_;refine aW ?_;refine .nil ?_;intro I a w U;refine ba ?_;refine U.cd (λae=>?_) λae=>?_
 .rw[List.length_map] at ae;replace ae:=nt ae;refine ao λI a w U=>?_;refine U.bD (.bool false) [] rfl (.cons (.t rfl) .nil) trivial (by rw[BS ae];rfl) (by rw[BS ae];rfl)
 rw[List.length_map] at ae;replace ae:=nf ae;have qd:=ae;simp only[aQ,Bool.and_eq_true,decide_eq_true_eq] at qd;have hm:=hg.words _ (bB (l:=x.au) (k:=e.word.toNat) om);refine zt ?_;refine U.da 9 ?_;simp only[TD];refine gw ?_;refine .o (vn 2 eA cV .tt .tt rfl (λ_=>by rw[List.length_map];omega)) ?_;refine .o (KD 2 cV .tt rfl (λ_=>by exact dL om) rfl) ?_;refine fk.alloc cV dr<|.nil ?_;intro I a w U;obtain⟨b5,U⟩:=U.rF (d:=5) rfl;refine U.sb 5 λU=>?_;obtain⟨I,U⟩:=U.fb 5 5;refine nn ?_;refine St.cut (σ:=Value) (run 16 29 []) ⟨λu=>[],λu=>[Own.box b 28 [AV.int x.time,AV.val (.slice (some ⟨bS,0,none⟩) (x.aC.map Server.cells).length cS),AV.val u,AV.val q,AV.val z],Own.row (.slice (some ⟨bS,0,none⟩) (x.aC.map Server.cells).length cS) 95 7 ((x.aC).map Server.cells),Own.row u 108 15 ((gN x e).map aw.cells),Own.row q 45 13 ((x.calls).map Call.cells),Own.row z 40 1 ((x.seen).map du)],λu=>True⟩ U ?oP ?yR;case oP=>
  refine aM λI a w U=>?_;refine cz (λah=>?_) λah=>?_
  .refine U.db (rp 4 (([0],none)::rp 5 (([2],some (2,[42]))::rp 2 [([0],some (0,[42]))]))) aP aP rfl ?_;refine dq ?_;refine .r [0] (.lb 0) ?_;refine eP ?_;refine aI.KE 2 rfl rfl (OY r x.au e.word om om om) (ai .r (ai .tt (ai .tt aB))) ?_;refine cg ?_;refine aI.xq 0 rfl xB .tt rfl rfl<|.nil ?_;intro I a w U;change St _ _ [Own.box b 28 [AV.int x.time,AV.val (.slice (some ⟨bS,0,none⟩) (x.aC.map Server.cells).length cS),AV.val (a.tmps.getD 42 undef),AV.val q,AV.val z],Own.row (.slice (some ⟨bS,0,none⟩) (x.aC.map Server.cells).length cS) 95 7 ((x.aC).map Server.cells),Own.row (a.tmps.getD 42 undef) 108 15 ((x.au.take e.word.toNat++x.au.drop (e.word.toNat+1)).map aw.cells),Own.row q 45 13 ((x.calls).map Call.cells),Own.row z 40 1 ((x.seen).map du),Own.gone] _ _ _ at U;generalize a.tmps.getD 42 undef=mN at U;refine ba ?_;have U:=U.drop 5;first|have U:=U.pass (H':=[Own.box b 28 [AV.int x.time,AV.val (.slice (some ⟨bS,0,none⟩) (x.aC.map Server.cells).length cS),AV.val mN,AV.val q,AV.val z],Own.row (.slice (some ⟨bS,0,none⟩) (x.aC.map Server.cells).length cS) 95 7 ((x.aC).map Server.cells),Own.row mN 108 15 ((gN x e).map aw.cells),Own.row q 45 13 ((x.calls).map Call.cells),Own.row z 40 1 ((x.seen).map du)]) (congrArg (λl:List aw=>[Own.box b 28 [AV.int x.time,AV.val (.slice (some ⟨bS,0,none⟩) (x.aC.map Server.cells).length cS),AV.val mN,AV.val q,AV.val z],Own.row (.slice (some ⟨bS,0,none⟩) (x.aC.map Server.cells).length cS) 95 7 ((x.aC).map Server.cells),Own.row mN 108 15 ((l).map aw.cells),Own.row q 45 13 ((x.calls).map Call.cells),Own.row z 40 1 ((x.seen).map du)]) (show x.au.take e.word.toNat++x.au.drop (e.word.toNat+1)=gN x e from(if_pos (.inr ah)).symm))|have U:=U.pass (H':=[Own.box b 28 [AV.int x.time,AV.val (.slice (some ⟨bS,0,none⟩) (x.aC.map Server.cells).length cS),AV.val r,AV.val q,AV.val z],Own.row (.slice (some ⟨bS,0,none⟩) (x.aC.map Server.cells).length cS) 95 7 ((x.aC).map Server.cells),Own.row r 108 15 ((gN x e).map aw.cells),Own.row q 45 13 ((x.calls).map Call.cells),Own.row z 40 1 ((x.seen).map du)]) (congrArg (λl:List aw=>[Own.box b 28 [AV.int x.time,AV.val (.slice (some ⟨bS,0,none⟩) (x.aC.map Server.cells).length cS),AV.val r,AV.val q,AV.val z],Own.row (.slice (some ⟨bS,0,none⟩) (x.aC.map Server.cells).length cS) 95 7 ((x.aC).map Server.cells),Own.row r 108 15 ((l).map aw.cells),Own.row q 45 13 ((x.calls).map Call.cells),Own.row z 40 1 ((x.seen).map du)]) (show x.au=gN x e from(if_neg (by rw[hk];simpa using ah)).symm))
   exact U.me mN eZ
  refine wp_skip<|ba ?_;have U:=U.drop 5;first|have U:=U.pass (H':=[Own.box b 28 [AV.int x.time,AV.val (.slice (some ⟨bS,0,none⟩) (x.aC.map Server.cells).length cS),AV.val mN,AV.val q,AV.val z],Own.row (.slice (some ⟨bS,0,none⟩) (x.aC.map Server.cells).length cS) 95 7 ((x.aC).map Server.cells),Own.row mN 108 15 ((gN x e).map aw.cells),Own.row q 45 13 ((x.calls).map Call.cells),Own.row z 40 1 ((x.seen).map du)]) (congrArg (λl:List aw=>[Own.box b 28 [AV.int x.time,AV.val (.slice (some ⟨bS,0,none⟩) (x.aC.map Server.cells).length cS),AV.val mN,AV.val q,AV.val z],Own.row (.slice (some ⟨bS,0,none⟩) (x.aC.map Server.cells).length cS) 95 7 ((x.aC).map Server.cells),Own.row mN 108 15 ((l).map aw.cells),Own.row q 45 13 ((x.calls).map Call.cells),Own.row z 40 1 ((x.seen).map du)]) (show x.au.take e.word.toNat++x.au.drop (e.word.toNat+1)=gN x e from(if_pos (.inr ah)).symm))|have U:=U.pass (H':=[Own.box b 28 [AV.int x.time,AV.val (.slice (some ⟨bS,0,none⟩) (x.aC.map Server.cells).length cS),AV.val r,AV.val q,AV.val z],Own.row (.slice (some ⟨bS,0,none⟩) (x.aC.map Server.cells).length cS) 95 7 ((x.aC).map Server.cells),Own.row r 108 15 ((gN x e).map aw.cells),Own.row q 45 13 ((x.calls).map Call.cells),Own.row z 40 1 ((x.seen).map du)]) (congrArg (λl:List aw=>[Own.box b 28 [AV.int x.time,AV.val (.slice (some ⟨bS,0,none⟩) (x.aC.map Server.cells).length cS),AV.val r,AV.val q,AV.val z],Own.row (.slice (some ⟨bS,0,none⟩) (x.aC.map Server.cells).length cS) 95 7 ((x.aC).map Server.cells),Own.row r 108 15 ((l).map aw.cells),Own.row q 45 13 ((x.calls).map Call.cells),Own.row z 40 1 ((x.seen).map du)]) (show x.au=gN x e from(if_neg (by rw[hk];simpa using ah)).symm))
  exact U.me r eZ
 rintro u I a w al U;refine aF λI a w U=>?_;refine U.o (.c1 (rV ..)) λU=>?_;refine zt ?_;refine U.cd (λaj=>?_) λaj=>?_
 .have lZ:=mI.1 aj;have jA:=(hg.site (ab x.au e.word.toNat).to.toNat om).2;refine wp_seq ?_;have U:=U.fP;refine U.db (rp 3 (([0],none)::rp 2 (([1],none)::([1],none)::rp 5 [([5],some (5,[6])),([5],some (5,[6])),([],none)]))) aP aP rfl ?_;refine dw ?_;refine .r [0] (.lb 0) ?_;refine cg ?_;refine .r [1] (fj nQ ck .tt .tt (λ_=>by rw[List.length_map];omega)) ?_;refine .r [1] (pg 1 ck .tt rfl (λ_=>by exact dL om) rfl) ?_;refine aW ?_;refine .o (.c2 (acH (ab x.aC (ab x.au e.word.toNat).to.toNat) (ab x.au e.word.toNat) jA hm)) ?_;refine dw ?_;refine aI.alloc 5 rfl rfl ck c9<|aI.pk 5 rfl ck rfl .tt rfl rfl ?_;refine aW ?_;refine .nil ?_;intro I a w U;obtain⟨b6,U⟩:=U.lI (d:=6) 5 rfl rfl;obtain⟨I,U⟩:=U.fb 5 6;refine zt ?_;refine U.dt 8 ?_;simp only[TD];refine jJ ?_;refine .o (fj nQ ck .tt .tt (λ_=>by rw[List.length_map];omega)) ?_;refine .nil ?_;intro I a w U;refine U.jf 1 ck .tt .tt rfl (by exact dL om) rfl rfl λa w U=>?_;refine wpList_nil ?_;have e9:∀y,y=Server.cells (gq (ab x.aC (ab x.au e.word.toNat).to.toNat) (ab x.au e.word.toNat)).1->(List.map Server.cells x.aC).set (ab x.au e.word.toNat).to.toNat y=List.map Server.cells (x.aC.set (ab x.au e.word.toNat).to.toNat (gq (ab x.aC (ab x.au e.word.toNat).to.toNat) (ab x.au e.word.toNat)).1):=λy hy=>by rw[hy,List.map_set]
  rw[e9] at U;rotate_left
  .rfl
  refine aF λI a w U=>?_;refine U.bz [0,2] (Ch b x.time (.slice (some ⟨bS,0,none⟩) (x.aC.map Server.cells).length cS) u q z (gN x e) (gq (ab x.aC (ab x.au e.word.toNat).to.toNat) (ab x.au e.word.toNat)).2 qw (O9 jA hm).1 (O9 jA hm).2) (ai .tt (ai .r aB)) rfl aO rfl λu2 I a w CD U=>?_;refine ao λI a w U=>?_;have hR:iM x e=({x with aC:=x.aC.set (ab x.au e.word.toNat).to.toNat (gq (ab x.aC (ab x.au e.word.toNat).to.toNat) (ab x.au e.word.toNat)).1,au:=eC (gN x e) (gq (ab x.aC (ab x.au e.word.toNat).to.toNat) (ab x.au e.word.toNat)).2},true):=by rw[su ae,if_neg (by rw[hk];decide),if_neg (by rw[aay aj];simp)]
  refine U.bD u2 [0,1,2,3,4] rfl (.cons (.t rfl) .nil) trivial (by rw[hR];rfl) (by rw[hR];rfl)
 have lZ:=aax hm aj;have adW:=lZ;simp only[aQ,Bool.and_eq_true,decide_eq_true_eq] at adW;refine dp λI a w U=>?_;refine U.o (z8 (xs:=[AV.val (.pointer (some ⟨b,0,none⟩)),AV.int ((ab x.au e.word.toNat).to-10)]) (pr:=[AV.ptr [AV.int x.time,AV.val (.slice (some ⟨bS,0,none⟩) (x.aC.map Server.cells).length cS),AV.val u,fN x.calls,AV.val z],AV.int ((ab x.au e.word.toNat).to-10)]) (Gy x.calls x.time (.slice (some ⟨bS,0,none⟩) (x.aC.map Server.cells).length cS) u z ((ab x.au e.word.toNat).to-10)) (ai .tt (ai .tt aB)) (λc I a w U=>by obtain⟨I,U⟩:=U.fu 3 3 0;obtain⟨I,U⟩:=U.fb 0 0;exact⟨_,_,_,U,rfl,rfl,trivial⟩)) λU=>?_;refine aM λI a w U=>?_;refine cz (λaG=>?_) λaG=>?_
 .obtain⟨h1,h2,h3⟩:=uc (show 0<=(cw x.calls ((ab x.au e.word.toNat).to-10)) by omega);have hq:=B1 (m:=(ab x.au e.word.toNat)) (hg.call h1);obtain⟨bC,cC,rfl⟩:=U.gv 3 rfl gG;refine wp_seq ?_;refine U.da 14 ?_;simp only[TD];refine eP ?_;refine .o (fj ju ei .tt .tt (λ_=>by rw[List.length_map];omega)) ?_;refine .o (pg 3 ei .tt rfl (λ_=>by exact dL om) rfl) ?_;refine eP ?_;refine .o (.c3 (abY (ab x.calls (cw x.calls ((ab x.au e.word.toNat).to-10)).toNat) (ab x.au e.word.toNat) x.time (hg.call h1) ht hm))<|fk.alloc ei jj<|.nil ?_;intro I a w U;obtain⟨jU,U⟩:=U.rF (d:=10) rfl;refine ao λI a w U=>?_;obtain⟨I,U⟩:=U.fb 5 10;refine U.dt 7 ?_;simp only[TD];refine gw ?_;refine .o (fj ju ei .tt .tt (λ_=>by rw[List.length_map];omega)) ?_;refine .nil ?_;intro I a w U;refine U.jf 3 ei .tt .tt rfl (by exact dL om) rfl rfl λa w U=>?_;refine wpList_nil ?_;have e9:∀y,y=Call.cells (dJ (ab x.calls (cw x.calls ((ab x.au e.word.toNat).to-10)).toNat) (ab x.au e.word.toNat) x.time)->(List.map Call.cells x.calls).set (cw x.calls ((ab x.au e.word.toNat).to-10)).toNat y=List.map Call.cells (x.calls.set (cw x.calls ((ab x.au e.word.toNat).to-10)).toNat (dJ (ab x.calls (cw x.calls ((ab x.au e.word.toNat).to-10)).toNat) (ab x.au e.word.toNat) x.time)):=λy hy=>by rw[hy,List.map_set]
  rw[e9] at U;rotate_left
  .rfl
  refine aM λI a w U=>?_;refine cz (λaK=>?_) λaK=>?_
  .obtain⟨bZ,cZ,rfl⟩:=U.gv 4 rfl gG;refine U.dt 8 ?_;simp only[TD];refine gw ?_;refine .o (.c1 (aae (dJ (ab x.calls (cw x.calls ((ab x.au e.word.toNat).to-10)).toNat) (ab x.au e.word.toNat) x.time) x.time (pG.2 hq))) ?_;refine .o (fj xF pw .tt .tt (λ_=>by rw[List.length_map];omega)) ?_;refine .nil ?_;intro I a w U;refine U.sT (j:=0) 4 pw .tt .tt (by first|exact fi rfl|exact dD|exact fB|exact fE|assumption) rfl (by exact dL om) rfl rfl λa w U=>?_;refine wpList_nil ?_;have e8:∀y,y=du (jx (dJ (ab x.calls (cw x.calls ((ab x.au e.word.toNat).to-10)).toNat) (ab x.au e.word.toNat) x.time))->(List.map du x.seen).set ((ab x.au e.word.toNat).to-10).toNat y=List.map du (x.seen.set ((ab x.au e.word.toNat).to-10).toNat (jx (dJ (ab x.calls (cw x.calls ((ab x.au e.word.toNat).to-10)).toNat) (ab x.au e.word.toNat) x.time))):=λy hy=>by rw[hy,List.map_set]
   rw[e8] at U;rotate_left
   .rfl
   refine ao λI a w U=>?_;have hR:iM x e=({x with au:=gN x e,calls:=x.calls.set (cw x.calls ((ab x.au e.word.toNat).to-10)).toNat (dJ (ab x.calls (cw x.calls ((ab x.au e.word.toNat).to-10)).toNat) (ab x.au e.word.toNat) x.time),seen:=x.seen.set ((ab x.au e.word.toNat).to-10).toNat (jx (dJ (ab x.calls (cw x.calls ((ab x.au e.word.toNat).to-10)).toNat) (ab x.au e.word.toNat) x.time))},true):=by rw[su ae,if_neg (by rw[hk];decide),if_pos lZ];unfold oF;dsimp only;rw[if_neg om,if_pos aK]
   refine U.bD u [0,1,2,3,4] rfl (.cons (.t rfl) .nil) trivial (by rw[hR];rfl) (by rw[hR];rfl)
  refine ao λI a w U=>?_;have hR:iM x e=({x with au:=gN x e,calls:=x.calls.set (cw x.calls ((ab x.au e.word.toNat).to-10)).toNat (dJ (ab x.calls (cw x.calls ((ab x.au e.word.toNat).to-10)).toNat) (ab x.au e.word.toNat) x.time)},true):=by rw[su ae,if_neg (by rw[hk];decide),if_pos lZ];unfold oF;dsimp only;rw[if_neg om,if_neg om]
  refine U.bD u [0,1,2,3,4] rfl (.cons (.t rfl) .nil) trivial (by rw[hR];rfl) (by rw[hR];rfl)
 refine ao λI a w U=>?_;have hR:iM x e=({x with au:=gN x e},true):=by rw[su ae,if_neg (by rw[hk];decide),if_pos lZ];unfold oF;dsimp only;rw[if_pos om]
 refine U.bD u [0,1,2,3,4] rfl (.cons (.t rfl) .nil) trivial (by rw[hR];rfl) (by rw[hR];rfl)
def zh (w:aJ):aJ:=fJ w (ev 4 0 0)
def fX:Nat->aJ->aJ
 |0,w=>w
 |n+1,w=>if w.au.length=0 then w else fX n (zh w)
def kv (w:aJ) (i:Nat):aJ:=fX 1000 (fJ w (ev 8 i 0))
def rn (w:aJ) (c:Nat):aJ:=fX 1000 (fJ w (ev 2 0 c))
def jB (w:aJ):aJ:=(List.range 4).foldl (λ(w:aJ) (i:Nat)=>fJ w (ev 7 i 0)) w
def mQ (w:aJ):aJ:=(List.range 2).foldl rn ((List.range 4).foldl kv (fX 1000 (jB w)))
def kx:Nat->aJ->aJ
 |0,w=>w
 |n+1,w=>if w.time<79999 then kx n (mQ w) else w
def jC (w:aJ) (rounds:Int):aJ:=if gE w then kx (min rounds 40).toNat w else Ck
def zi:∀(n:Nat) (w:aJ),(fX n w).time<=w.time+n
 |0,w=>by show w.time<=_;omega
 |n+1,w=>by
  unfold fX;split
  .omega
  have h1:=zi n (zh w);have h2:(zh w).time<=w.time+1:=ly w _;omega
def PL (w:aJ) (i:Nat):(kv w i).time<=w.time+1001:=by
 have h1:=ly w (ev 8 i 0);have h2:=zi 1000 (fJ w (ev 8 i 0));unfold kv;omega
def PM (w:aJ) (c:Nat):(rn w c).time<=w.time+1001:=by
 have h1:=ly w (ev 2 0 c);have h2:=zi 1000 (fJ w (ev 2 0 c));unfold rn;omega
def adX (w:aJ):(jB w).time<=w.time+4:=by
 have:=Cn (f:=λ(w:aJ) (i:Nat)=>fJ w (ev 7 i 0)) (n:=1) (λx i=>ly x _) (List.range 4) w;rw[List.length_range] at this;unfold jB;omega
def PN (w:aJ):(mQ w).time<=w.time+7010:=by
 have h0:=adX w;have h1:=zi 1000 (jB w);have h2:=Cn PL (List.range 4) (fX 1000 (jB w));have h3:=Cn PM (List.range 2) ((List.range 4).foldl kv (fX 1000 (jB w)));rw[List.length_range] at h2 h3;unfold mQ;omega
def zj {w:aJ} (h:w.time<99999) (e:Ev):(rm w e).1=fJ w e:=by
 unfold rm fJ;by_cases hd:(eU w e).2=true
 .rw[if_pos ⟨h,hd⟩,if_pos hd]
 rw[if_neg (λx=>hd x.2),if_neg hd]
def oW {w:aJ} (h:cr w) (ht:w.time<99999) (e:Ev):cr (fJ w e):=by
 rw[<-zj ht];exact(mL.1 (acA (mL.2 ⟨h,by omega⟩) e)).1
def PO:∀(n:Nat) {w:aJ},cr w->w.time+n<=99999->cr (fX n w)
 |0,_,h,_=>h
 |n+1,w,h,ht=>by
  unfold fX;split
  .exact h
  have h2:(zh w).time<=w.time+1:=ly w _;exact PO n (oW h om _) om
structure uG (x y:aJ) (k:Nat):Prop where
 cH:cr y
 time:y.time<=x.time+k
 rest:fX (1000-k) y=fX 1000 x
def uG.next {x y:aJ} {k:Nat} (h:uG x y k) (ht:x.time<=98000) (hk:k<1000) (hr:0<y.au.length):uG x (fJ y (ev 4 0 0)) (k+1):=by
 have h2:(fJ y (ev 4 0 0)).time<=y.time+1:=ly y _;have h3:=h.time;refine⟨oW h.cH om _,by omega,?_⟩;rw[<-h.rest,show 1000-k=(1000-(k+1))+1 by omega];show _=(if y.au.length=0 then y else fX (1000-(k+1)) (zh y));rw[if_neg om];rfl
def uG.stop {x y:aJ} {k:Nat} (h:uG x y k) (hk:¬k<1000\/¬0<y.au.length):y=fX 1000 x:=by
 rw[<-h.rest];rcases hk with hk|hk
 .rw[show 1000-k=0 by omega];rfl
 cases 1000-k with
 |zero=>rfl
 |succ n=>unfold fX;rw[if_pos om]
def oQ.next {f:aJ->Nat->aJ} {n:Int} {x y:aJ} {k:Nat} (h:oQ f n x y k) (hg:cr (f y k)) (ht:(f y k).time<=y.time+n):oQ f n x (f y k) (k+1):=
 ⟨hg,by have h1:=h.time;have h2:n*((k+1:Nat):Int)=n*k+n:=by rw[Int.natCast_add,Int.mul_add];simp
        omega,by rw[List.range_succ,List.foldl_append,<-h.eq];rfl⟩
def rq {w:aJ} (h:cr w) (ht:w.time<=98000):cr (fX 1000 w)/\(fX 1000 w).time<=w.time+1000:=⟨PO 1000 h om,zi 1000 w⟩
structure uH (m:Nat) (x y:aJ) (k:Nat):Prop where
 cH:cr y
 time:y.time<=99999
 rest:kx (m-k) y=kx m x
def CE (y:aJ) (k:Nat):fX 1000 (fJ y (ev 8 k 0))=kv y k:=rfl
def CF (y:aJ) (k:Nat):fX 1000 (fJ y (ev 2 0 k))=rn y k:=rfl
def PQ {w:aJ} (h:cr w) (ht:w.time<=80000):cr (mQ w):=by
 have r:=Ci (f:=λ(w:aJ) (i:Nat)=>fJ w (ev 7 i 0)) (n:=1) aO (λx i hx PR=>⟨oW hx om _,ly x _⟩) (List.range 4) h (by rw[List.length_range];omega);rw[List.length_range] at r;have b:=rq r.1 om;have t:=Ci (f:=kv) (n:=1001) aO (λx i hx PR=>⟨by
  have h1:=ly x (ev 8 i 0);exact(rq (oW hx om (ev 8 i 0)) om).1,PL x i⟩) (List.range 4) b.1 (by rw[List.length_range];omega)
 rw[List.length_range] at t;exact(Ci (f:=rn) (n:=1001) aO (λx i hx PR=>⟨by
  have h1:=ly x (ev 2 0 i);exact(rq (oW hx om (ev 2 0 i)) om).1,PM x i⟩) (List.range 2) t.1 (by rw[List.length_range];omega)).1
def uH.next {m:Nat} {x y:aJ} {k:Nat} (h:uH m x y k) (hk:k<m) (ht:y.time<79999):uH m x (mQ y) (k+1):=by
 have h1:=PN y;refine⟨PQ h.cH om,by omega,?_⟩;rw[<-h.rest,show m-k=(m-(k+1))+1 by omega];show _=(if y.time<79999 then kx (m-(k+1)) (mQ y) else y);rw[if_pos ht]
def uH.stop {m:Nat} {x y:aJ} {k:Nat} (h:uH m x y k) (hk:¬k<m\/¬y.time<79999):y=kx m x:=by
 rw[<-h.rest];rcases hk with hk|hk
 .rw[show m-k=0 by omega];rfl
 cases m-k with
 |zero=>rfl
 |succ n=>unfold kx;rw[if_neg hk]
def CG (x:aJ) (e:Ev) (hg:cr x) (ht:x.time<=999999):
 Fn prog 167 [x.av,e.av] ((fJ x e).av):=by
 refine Fn.go 17 func167 ntmps167 (λW I a U=>?_);refine aF λI a w U=>?_;refine U.alloc rfl eE eQ λb4 I a w U=>?_;refine aF λI a w U=>?_;refine U.o (.c2 (Pm x e hg ht)) λU=>?_;refine bc λI a w U=>?_;refine U.alloc rfl eE eQ λb5 I a w U=>?_;refine U.sb 1 λU=>?_;obtain⟨I,U⟩:=U.fb 1 5;refine aM λI a w U=>?_;refine cz (λae=>?_) λae=>?_
 .refine aq λI a w U=>?_;refine U.ret rfl (.cons (.sx 0) aX.nil) ?_;rw[show fJ x e=x from by unfold fJ;rw[if_neg (by rw[ae];simp)]];rfl
 refine aq λI a w U=>?_;refine U.ret rfl (.cons (.sx 0) aX.nil) ?_;rw[show fJ x e=(eU x e).1 from by unfold fJ;rw[if_pos ae]];rfl
def HX (x:aJ) (hg:cr x) (ht:x.time<=98000):
 Fn prog 168 [x.av] ((fX 1000 x).av):=by
 refine Fn.go 18 func168 ntmps168 (λW I a U=>?_);refine sr<|U.box rfl .tt λb1 I a w U=>U.alloc rfl eE eQ λb2 I a w U=>?_;refine ao λI a w U=>?_;refine St.lo (σ:=Nat×aJ) (run 14 3 []) ⟨λ⟨k,y⟩=>[(3,AV.int k)],λ⟨k,y⟩=>[Own.box b1 28 y.cells,Own.box b2 28 [AV.val (.int .i64 0),AV.rows 7 [],AV.rows 15 [],AV.rows 13 [],AV.rows 1 []]],λ⟨k,y⟩=>k<=1000/\uG x y k⟩ (λ⟨k,y⟩=>1000-k) (0,x) U ?aH ?bx;case aH=>exact⟨by omega,hg,by omega,rfl⟩
 rintro⟨k,y⟩ I a w al U;obtain⟨hk,hp⟩:=al;have uI:=hp.time;have iD:=hp.cH.au;dsimp only at U;refine m3 λI a w U=>?_;refine kO (λae=>?_) λae=>?_
 .obtain⟨h1,h2⟩:=ae;refine bw λI a w U=>?_;refine U.o (.bd gT (.k aT.nil)) λU=>?_;refine U.o (cq (CG y (ev 4 0 0) hp.cH om) (ai (.t rfl) (ai (.t rfl) aB))) λU=>?_;refine aV λI a w U=>?_;exact U.ag (k+1,fJ y (ev 4 0 0)) (⟨by show k+1<=1000;omega,hp.next ht om om⟩)
 simp only[B,Bool.and_eq_false_iff] at ae;refine wp_exit<|cm<|cm<|dS<|ba<|wp_seq ?_;have hy:=(hp.stop om).symm;subst hy;refine aq λI a w U=>?_;refine U.ret rfl (.cons (.sx 1) aX.nil) ?_;rfl
def adY (x:aJ) (hg:cr x) (ht:x.time<=80000):
 Fn prog 85 [x.av] ((mQ x).av):=by
 refine Fn.go 35 func85 ntmps85 (λW I a U=>?_);refine sr<|U.box rfl .tt λb1 I a w U=>U.alloc rfl eE eQ λb2 I a w U=>?_;refine ao λI a w U=>?_;refine St.lo (σ:=Nat×aJ) (3::(run 8 6 [])) ⟨λ⟨k,y⟩=>[(3,AV.int k)],λ⟨k,y⟩=>[Own.box b1 28 y.cells,Own.box b2 28 [AV.val (.int .i64 0),AV.rows 7 [],AV.rows 15 [],AV.rows 13 [],AV.rows 1 []]],λ⟨k,y⟩=>k<=4/\oQ (λ(w:aJ) (i:Nat)=>fJ w (ev 7 i 0)) 1 x y k⟩ (λ⟨k,y⟩=>4-k) (0,x) U ?aH ?bx;case aH=>exact⟨by omega,.zero (by assumption)⟩
 rintro⟨k,y⟩ I a w al U;obtain⟨hk,hp⟩:=al;have uI:=hp.time;have oX:=hp.cH;dsimp only at U;refine aq λI a w U=>?_;refine cz (λae=>?_) λae=>?_
 .refine aF λI a w U=>?_;refine U.o (.bd gT (.k (.k aT.nil))) λU=>?_;refine U.o (cq (CG y (ev 7 k 0) hp.cH om) (ai (.t rfl) (ai (.t rfl) aB))) λU=>?_;refine aV λI a w U=>?_;exact U.ag (k+1,fJ y (ev 7 k 0)) (⟨by show k+1<=4;omega,hp.next (oW oX om _) (ly y _)⟩)
 refine wp_exit<|cm<|cm<|dS<|ba<|wp_seq ?_;obtain rfl:k=4:=by omega
 have hy:jB x=y:=hp.eq.symm;subst hy;have gD:=hp.cH;have sE:=hp.time;refine bw λI a w U=>?_;refine U.o (cq (HX (jB x) gD om) (ai (.t rfl) aB)) λU=>?_;refine ao λI a w U=>?_;have pH:=rq gD om;have adZ:=pH.1;have ad0:=pH.2;refine ao λI a w U=>?_;refine St.lo (σ:=Nat×aJ) (4::(run 9 16 [])) ⟨λ⟨k,y⟩=>[(4,AV.int k)],λ⟨k,y⟩=>[Own.box b1 28 y.cells,Own.box b2 28 [AV.val (.int .i64 0),AV.rows 7 [],AV.rows 15 [],AV.rows 13 [],AV.rows 1 []]],λ⟨k,y⟩=>k<=4/\oQ kv 1001 (fX 1000 (jB x)) y k⟩ (λ⟨k,y⟩=>4-k) (0,(fX 1000 (jB x))) U ?dC ?iJ;case dC=>exact⟨by omega,.zero (by assumption)⟩
 rintro⟨k,y⟩ I a w al U;obtain⟨hk,hp⟩:=al;have uI:=hp.time;have oX:=hp.cH;dsimp only at U;refine aq λI a w U=>?_;refine cz (λah=>?_) λah=>?_
 .refine wp_skip<|ba<|wp_seq<|wp_block ?_;have hl:=oW oX om (ev 8 k 0);have cj:=ly y (ev 8 k 0);have hd:=rq hl om;refine aF λI a w U=>?_;refine U.o (.bd gT (.k (.k aT.nil))) λU=>?_;refine U.o (cq (CG y (ev 8 k 0) hp.cH om) (ai (.t rfl) (ai (.t rfl) aB))) λU=>?_;refine U.o (cq (HX (fJ y (ev 8 k 0)) hl om) (ai (.t rfl) aB)) λU=>?_;refine aV λI a w U=>?_;rw[CE] at U;exact U.ag (k+1,kv y k) (⟨by show k+1<=4;omega,hp.next hd.1 (by have:=hd.2;rw[CE] at this;omega)⟩)
 refine wp_exit<|cm<|cm<|dS<|ba<|wp_seq<|wp_seq ?_;obtain rfl:k=4:=by omega
 have hy:((List.range 4).foldl kv (fX 1000 (jB x)))=y:=hp.eq.symm;subst hy;have hg3:=hp.cH;have ht3:=hp.time;refine ao λI a w U=>?_;refine St.lo (σ:=Nat×aJ) (5::(run 9 25 [])) ⟨λ⟨k,y⟩=>[(5,AV.int k)],λ⟨k,y⟩=>[Own.box b1 28 y.cells,Own.box b2 28 [AV.val (.int .i64 0),AV.rows 7 [],AV.rows 15 [],AV.rows 13 [],AV.rows 1 []]],λ⟨k,y⟩=>k<=2/\oQ rn 1001 ((List.range 4).foldl kv (fX 1000 (jB x))) y k⟩ (λ⟨k,y⟩=>2-k) (0,((List.range 4).foldl kv (fX 1000 (jB x)))) U ?fU ?kT;case fU=>exact⟨by omega,.zero (by assumption)⟩
 rintro⟨k,y⟩ I a w al U;obtain⟨hk,hp⟩:=al;have uI:=hp.time;have oX:=hp.cH;dsimp only at U;refine aq λI a w U=>?_;refine cz (λaj=>?_) λaj=>?_
 .refine wp_skip<|ba<|wp_seq<|wp_block ?_;have hl:=oW oX om (ev 2 0 k);have cj:=ly y (ev 2 0 k);have hd:=rq hl om;refine aF λI a w U=>?_;refine U.o (.bd gT (.k (.k aT.nil))) λU=>?_;refine U.o (cq (CG y (ev 2 0 k) hp.cH om) (ai (.t rfl) (ai (.t rfl) aB))) λU=>?_;refine U.o (cq (HX (fJ y (ev 2 0 k)) hl om) (ai (.t rfl) aB)) λU=>?_;refine aV λI a w U=>?_;rw[CF] at U;exact U.ag (k+1,rn y k) (⟨by show k+1<=2;omega,hp.next hd.1 (by have:=hd.2;rw[CF] at this;omega)⟩)
 refine wp_exit<|cm<|cm<|dS<|ba<|wp_seq ?_;obtain rfl:k=2:=by omega
 have hy:mQ x=y:=hp.eq.symm;subst hy;refine aq λI a w U=>?_;refine U.ret rfl (.cons (.sx 1) aX.nil) ?_;rfl
def wH {x:aJ} (r:Int) (h:gE x=true):jC x r=kx (min r 40).toNat x:=by unfold jC;rw[if_pos h]
def HY {x:aJ} (r:Int) (h:gE x=false):jC x r=Ck:=by unfold jC;rw[h];rfl
def HZ:∀(n:Nat) {w:aJ},gE w=true->gE (kx n w)=true
 |0,_,h=>h
 |n+1,w,h=>by
  unfold kx;split
  .have ht:=PN w;exact HZ n (mL.2 ⟨PQ (mL.1 h).1 om,by omega⟩)
  exact h
def PS:∀(n:Nat) (w:aJ),kx 1 (kx n w)=kx (n+1) w
 |0,w=>rfl
 |n+1,w=>by
  have e:∀(m:Nat) (y:aJ),kx (m+1) y=if y.time<79999 then kx m (mQ y) else y:=λ_ _=>rfl
  by_cases h:w.time<79999
  .rw[e n,if_pos h,PS n,e (n+1),if_pos h]
  rw[e n,if_neg h,e (n+1),if_neg h,e 0,if_neg h]
def ad3 {x:aJ} {r:Int} (h:gE x=true) (h0:0<=r) (h3:r<=3):jC (jC x r) 1=jC x (r+1):=by
 rw[wH r h,wH (r+1) h,wH 1 (HZ _ h)];have e:=PS r.toNat x;rw[show(min r 40).toNat=r.toNat by omega,show(min (r+1) 40).toNat=r.toNat+1 by omega];exact e
def ad4 {x:aJ} {r:Int} (h:gE x=true) (h0:r<0):jC x r=x:=by
 rw[wH r h,show(min r 40).toNat=0 by omega];rfl
def PT {x:aJ} (r:Int) (h:gE x=true):gE (jC x r)=true:=by rw[wH r h];exact HZ _ h
def PU (x:aJ) (r:Int):sj (jC x r):=by
 cases h:gE x with
 |true=>exact(mL.1 (PT r h)).1.small
 |false=>
  rw[HY r h]
  exact⟨⟨Nat.zero_le _,λ_ h=>by cases h⟩,⟨Nat.zero_le _,λ_ h=>by cases h⟩,⟨Nat.zero_le _,λ_ h=>by cases h⟩,Nat.zero_le _,λ_ h=>by cases h⟩
end Go.Proofs.YtldbakcpcfdlaaaGreat
set_option linter.all false
set_option maxRecDepth 100000
set_option maxHeartbeats 4000000
namespace Go.Proofs.YtldbakcpcfdlaaaGreat
open Go Go.RowKit Tryz
attribute [local irreducible] wpList Code.wp Ok
set_option maxHeartbeats 8000000 in
def acS (bs br:Nat) (code:List UInt8) (aR:code.length<=1099511627776) (s:dj) (p:Int) (n:Nat) (h:cJ n s) (h0:0<=p) (h1:p<=n) (hn:n<=870000) (rk:Int):
 bJ prog 55 [AV.val (.pointer (some ⟨bs,0,none⟩)),AV.int rk] (oS bs br code s (p)) (λr:dj×Int=>cJ (n+850) r.1/\0<=r.2/\r.2<=((n+850:Nat):Int)) (λr=>(oS bs br code r.1 (r.2))) (λ_=>AV.c6 []):=by
 refine bJ.intro 128 func55 rfl ntmps55 rfl aP (λW I a U=>?_);refine bj λI a w U=>?_;refine U.dX [2] (cW br code (p) (4) om aR) (ai .tt (ai .c aB)) rfl aO rfl λI a w U=>?_;change St _ _ (oS bs br code s (p+1)) _ _ _ at U;have BH:=gB code (p) (4);have BI:=gn code (p) (4) om;try have hj9:=gR code (p) (n:=4) om
 generalize bE code (p) (4)=x9 at U BH BI hj9;refine bK λI a w U=>?_;refine U.dX [2] (cW br code (p+1) (20) om aR) (ai .tt (ai .c aB)) rfl aO rfl λI a w U=>?_;change St _ _ (oS bs br code s (p+1+1)) _ _ _ at U;have PG:=gB code (p+1) (20);have PH:=gn code (p+1) (20) om;try have acU:=gR code (p+1) (n:=20) om
 generalize bE code (p+1) (20)=hC at U PG PH acU;refine nn<|wp_block ?_;refine St.cut (σ:=Bool) (run 6 26 []) ⟨λbb=>[(26,AV.bool bb)],λbb=>(oS bs br code s (p+1+1)),λbb=>True⟩ U ?acV ?akA;case acV=>
  refine aq λI a w U=>?_;refine U.cd (λae=>?_) λae=>?_
  .refine zt ?_;exact U.me (hC==0) eZ
  refine aq λI a w U=>?_;refine U.cd (λah=>?_) λah=>?_
  .refine zt ?_;exact U.me (hC==1) eZ
  refine aq λI a w U=>?_;refine U.cd (λaj=>?_) λaj=>?_
  .refine zt ?_;exact U.me (hC==2) eZ
  refine aq λI a w U=>?_;refine U.cd (λaG=>?_) λaG=>?_
  .refine zt ?_;exact U.me (hC==3) eZ
  refine aq λI a w U=>?_;exact U.me (hC==4) eZ
 rintro bb I a w al U;change St _ _ (oS bs br code s (p+1+1)) _ _ _ at U;refine U.cd (λaK=>?_) λaK=>?_
 .refine bK λI a w U=>?_;refine U.dX [2] (cW br code (p+1+1) (2) om aR) (ai .tt (ai .c aB)) rfl aO rfl λI a w U=>?_;change St _ _ (oS bs br code s (p+1+1+1)) _ _ _ at U;have PI:=gB code (p+1+1) (2);have PJ:=gn code (p+1+1) (2) om;try have acW:=gR code (p+1+1) (n:=2) om
  generalize bE code (p+1+1) (2)=x37 at U PI PJ acW;refine U.bz [0,1,2] (y9 bs br code aR s (p+1+1+1) (n+3) (h.mono om) om om om x37 (AU PI PJ.2)) (ai .tt (ai .tt aB)) rfl aO rfl λr38 I a w yN U=>?_;obtain⟨Cp,pZ⟩:=r38;change St _ _ (oS bs br code Cp (pZ)) _ _ _ at U;replace yN:cJ ((n+3)+8) Cp/\0<=pZ/\pZ<=(((n+3)+8:Nat):Int):=yN;obtain⟨k38,l38,u38⟩:=yN;refine bK λI a w U=>?_;refine U.dX [2] (cW br code (pZ) (14) om aR) (ai .tt (ai .c aB)) rfl aO rfl λI a w U=>?_;change St _ _ (oS bs br code Cp (pZ+1)) _ _ _ at U;have ac0:=gB code (pZ) (14);have ac1:=gn code (pZ) (14) om;try have ac2:=gR code (pZ) (n:=14) om
  generalize bE code (pZ) (14)=x44 at U ac0 ac1 ac2;refine U.m λU=>?_;refine U.bz [0,1,2] (y8 bs br code aR Cp (pZ+1) (n+12) (k38.mono om) om om om x44 rk om) (ai .tt (ai .tt (ai .tt aB))) rfl aO rfl λr46 I a w oV U=>?_;obtain⟨HI,Cq⟩:=r46;change St _ _ (oS bs br code HI (Cq)) _ _ _ at U;replace oV:cJ ((n+12)+240) HI/\0<=Cq/\Cq<=(((n+12)+240:Nat):Int):=oV;obtain⟨k46,GR,u46⟩:=oV;refine zt ?_;refine U.kK (HI,Cq) [0,1,2] rfl .nil (by(try dsimp only);exact⟨k46.mono om,oq,oq⟩) rfl rfl
 refine St.cut (σ:=Bool) (47::48::49::50::51::[]) ⟨λbb=>[(47,AV.bool bb)],λbb=>(oS bs br code s (p+1+1)),λbb=>True⟩ U ?HD ?ach;case HD=>
  refine aq λI a w U=>?_;refine U.cd (λbh=>?_) λbh=>?_
  .refine zt ?_;exact U.me (hC==5) eZ
  refine aq λI a w U=>?_;refine U.cd (λaZ=>?_) λaZ=>?_
  .refine zt ?_;exact U.me (hC==6) eZ
  refine aq λI a w U=>?_;refine U.cd (λbT=>?_) λbT=>?_
  .refine zt ?_;exact U.me (hC==7) eZ
  refine aq λI a w U=>?_;exact U.me (hC==8) eZ
 rintro bb I a w al U;change St _ _ (oS bs br code s (p+1+1)) _ _ _ at U;refine U.cd (λcO=>?_) λcO=>?_
 .refine aF λI a w U=>?_;refine U.o (.bd gT (.k (.k aT.nil))) λU=>?_;refine U.bz [0,1] (ku bs br s ⟨8,x9,0,0,0,0,0,0,0,0,0⟩ (n+2) (h.mono om) om (iX)) (ai .tt (ai .tt aB)) rfl aO rfl λr55 I a w HJ U=>?_;obtain⟨Cr,b55⟩:=r55;change St _ _ (oS bs br code Cr (p+1+1)) _ _ _ at U;replace HJ:cJ ((n+2)+1) Cr:=HJ;refine bK λI a w U=>?_;refine U.dX [2] (cW br code (p+1+1) (14) om aR) (ai .tt (ai .c aB)) rfl aO rfl λI a w U=>?_;change St _ _ (oS bs br code Cr (p+1+1+1)) _ _ _ at U;have ac7:=gB code (p+1+1) (14);have ac8:=gn code (p+1+1) (14) om;try have ac9:=gR code (p+1+1) (n:=14) om
  generalize bE code (p+1+1) (14)=x61 at U ac7 ac8 ac9;refine U.m λU=>?_;refine U.bz [0,1,2] (y8 bs br code aR Cr (p+1+1+1) (n+3) HJ om om om x61 rk om) (ai .tt (ai .tt (ai .tt aB))) rfl aO rfl λr63 I a w HK U=>?_;obtain⟨HL,Cs⟩:=r63;change St _ _ (oS bs br code HL (Cs)) _ _ _ at U;replace HK:cJ ((n+3)+240) HL/\0<=Cs/\Cs<=(((n+3)+240:Nat):Int):=HK;obtain⟨k63,l63,u63⟩:=HK;refine zt ?_;refine U.kK (HL,Cs) [0,1,2] rfl .nil (by(try dsimp only);exact⟨k63.mono om,oq,oq⟩) rfl rfl
 refine St.cut (σ:=Bool) (64::65::66::[]) ⟨λbb=>[(64,AV.bool bb)],λbb=>(oS bs br code s (p+1+1)),λbb=>True⟩ U ?adf ?akH;case adf=>
  refine aq λI a w U=>?_;refine U.cd (λfg=>?_) λfg=>?_
  .refine zt ?_;exact U.me (hC==9) eZ
  refine aq λI a w U=>?_;exact U.me (hC==10) eZ
 rintro bb I a w al U;change St _ _ (oS bs br code s (p+1+1)) _ _ _ at U;refine U.cd (λg9=>?_) λg9=>?_
 .refine bK λI a w U=>?_;refine U.dX [2] (cW br code (p+1+1) (24) om aR) (ai .tt (ai .c aB)) rfl aO rfl λI a w U=>?_;change St _ _ (oS bs br code s (p+1+1+1)) _ _ _ at U;have adg:=gB code (p+1+1) (24);have adh:=gn code (p+1+1) (24) om;try have adi:=gR code (p+1+1) (n:=24) om
  generalize bE code (p+1+1) (24)=x72 at U adg adh adi;refine U.m λU=>?_;refine U.bz [0,1,2] (y8 bs br code aR s (p+1+1+1) (n+3) (h.mono om) om om om x72 rk om) (ai .tt (ai .tt (ai .tt aB))) rfl aO rfl λr74 I a w uh U=>?_;obtain⟨HM,Ct⟩:=r74;change St _ _ (oS bs br code HM (Ct)) _ _ _ at U;replace uh:cJ ((n+3)+240) HM/\0<=Ct/\Ct<=(((n+3)+240:Nat):Int):=uh;obtain⟨k74,l74,u74⟩:=uh;refine zt ?_;refine U.kK (HM,Ct) [0,1,2] rfl .nil (by(try dsimp only);exact⟨k74.mono om,oq,oq⟩) rfl rfl
 refine aq λI a w U=>?_;refine U.cd (λCu=>?_) λCu=>?_
 .refine aF λI a w U=>?_;refine U.o (.bd gT (.k (.k aT.nil))) λU=>?_;refine U.bz [0,1] (ku bs br s ⟨6,x9,0,0,0,0,0,0,0,0,0⟩ (n+2) (h.mono om) om (iX)) (ai .tt (ai .tt aB)) rfl aO rfl λr80 I a w HN U=>?_;obtain⟨HO,b80⟩:=r80;change St _ _ (oS bs br code HO (p+1+1)) _ _ _ at U;replace HN:cJ ((n+2)+1) HO:=HN;refine zt ?_;refine U.kK (HO,p+1+1) [0,1,2] rfl .nil (by(try dsimp only);exact⟨HN.mono om,oq,oq⟩) rfl rfl
 refine St.cut (σ:=Bool) (81::82::83::[]) ⟨λbb=>[(81,AV.bool bb)],λbb=>(oS bs br code s (p+1+1)),λbb=>True⟩ U ?adn ?akL;case adn=>
  refine aq λI a w U=>?_;refine U.cd (λCv=>?_) λCv=>?_
  .refine zt ?_;exact U.me (hC==12) eZ
  refine aq λI a w U=>?_;exact U.me (hC==13) eZ
 rintro bb I a w al U;change St _ _ (oS bs br code s (p+1+1)) _ _ _ at U;refine U.cd (λzf=>?_) λzf=>?_
 .refine aF λI a w U=>?_;refine U.o (.bd gT (.k (.k aT.nil))) λU=>?_;refine U.bz [0,1] (ku bs br s ⟨7,x9,0,0,0,0,0,0,0,0,0⟩ (n+2) (h.mono om) om (iX)) (ai .tt (ai .tt aB)) rfl aO rfl λr87 I a w HP U=>?_;obtain⟨HQ,b87⟩:=r87;change St _ _ (oS bs br code HQ (p+1+1)) _ _ _ at U;replace HP:cJ ((n+2)+1) HQ:=HP;refine zt ?_;refine U.kK (HQ,p+1+1) [0,1,2] rfl .nil (by(try dsimp only);exact⟨HP.mono om,oq,oq⟩) rfl rfl
 refine St.cut (σ:=Bool) (88::89::90::[]) ⟨λbb=>[(88,AV.bool bb)],λbb=>(oS bs br code s (p+1+1)),λbb=>True⟩ U ?adp ?akN;case adp=>
  refine aq λI a w U=>?_;refine U.cd (λp6=>?_) λp6=>?_
  .refine zt ?_;exact U.me (hC==14) eZ
  refine aq λI a w U=>?_;exact U.me (hC==15) eZ
 rintro bb I a w al U;change St _ _ (oS bs br code s (p+1+1)) _ _ _ at U;refine U.cd (λadq=>?_) λadq=>?_
 .refine dp λI a w U=>?_;refine U.dX [2] (cW br code (p+1+1) (3) om aR) (ai .tt (ai .c aB)) rfl aO rfl λI a w U=>?_;change St _ _ (oS bs br code s (p+1+1+1)) _ _ _ at U;have adr:=gB code (p+1+1) (3);have ads:=gn code (p+1+1) (3) om;try have adt:=gR code (p+1+1) (n:=3) om
  generalize bE code (p+1+1) (3)=x97 at U adr ads adt;refine U.o (.bd gT (.k (.k (.k aT.nil)))) λU=>?_;refine U.bz [0,1] (ku bs br s ⟨9,x9,0,0,0,x97,0,0,0,0,0⟩ (n+3) (h.mono om) om (iX)) (ai .tt (ai .tt aB)) rfl aO rfl λr99 I a w HR U=>?_;obtain⟨Cw,b99⟩:=r99;change St _ _ (oS bs br code Cw (p+1+1+1)) _ _ _ at U;replace HR:cJ ((n+3)+1) Cw:=HR;refine bK λI a w U=>?_;refine U.dX [2] (cW br code (p+1+1+1) (8) om aR) (ai .tt (ai .c aB)) rfl aO rfl λI a w U=>?_;change St _ _ (oS bs br code Cw (p+1+1+1+1)) _ _ _ at U;have adw:=gB code (p+1+1+1) (8);have adx:=gn code (p+1+1+1) (8) om;try have ady:=gR code (p+1+1+1) (n:=8) om
  generalize bE code (p+1+1+1) (8)=adz at U adw adx ady;refine U.bz [0,1,2] (Pn bs br code aR Cw (p+1+1+1+1) (n+4) HR om om om adz om) (ai .tt (ai .tt aB)) rfl aO rfl λadA I a w B9 U=>?_;obtain⟨HT,Cx⟩:=adA;change St _ _ (oS bs br code HT (Cx)) _ _ _ at U;replace B9:cJ ((n+4)+60) HT/\0<=Cx/\Cx<=(((n+4)+60:Nat):Int):=B9;obtain⟨adB,akP,akQ⟩:=B9;refine zt ?_;refine U.kK (HT,Cx) [0,1,2] rfl .nil (by(try dsimp only);exact⟨adB.mono om,oq,oq⟩) rfl rfl
 refine aq λI a w U=>?_;refine U.cd (λadC=>?_) λadC=>?_
 .refine bj λI a w U=>?_;refine U.dX [2] (cW br code (p+1+1) (3) om aR) (ai .tt (ai .c aB)) rfl aO rfl λI a w U=>?_;change St _ _ (oS bs br code s (p+1+1+1)) _ _ _ at U;have adD:=gB code (p+1+1) (3);have adE:=gn code (p+1+1) (3) om;try have adF:=gR code (p+1+1) (n:=3) om
  generalize bE code (p+1+1) (3)=akR at U adD adE adF;refine ao λI a w U=>?_;refine U.cd (λOw=>?_) λOw=>?_
  .refine bK λI a w U=>?_;refine U.dX [2] (cW br code (p+1+1+1) (2) om aR) (ai .tt (ai .c aB)) rfl aO rfl λI a w U=>?_;change St _ _ (oS bs br code s (p+1+1+1+1)) _ _ _ at U;have Hp:=gB code (p+1+1+1) (2);have Hq:=gn code (p+1+1+1) (2) om;try have Hr:=gR code (p+1+1+1) (n:=2) om
   generalize bE code (p+1+1+1) (2)=Hs at U Hp Hq Hr;refine U.o (.bd gT (.k (.k aT.nil))) λU=>?_;refine U.bz [0,1] (ku bs br s ⟨3,0,Hs,0,0,0,0,0,0,0,0⟩ (n+4) (h.mono om) om (iX)) (ai .tt (ai .tt aB)) rfl aO rfl λHt I a w uE U=>?_;obtain⟨uF,abJ⟩:=Ht;change St _ _ (oS bs br code uF (p+1+1+1+1)) _ _ _ at U;replace uE:cJ ((n+4)+1) uF:=uE;refine zt ?_;refine U.kK (uF,p+1+1+1+1) [0,1,2] rfl .nil (by(try dsimp only);exact⟨uE.mono om,oq,oq⟩) rfl rfl
  refine zt ?_;refine U.kK (s,p+1+1+1) [0,1,2] rfl .nil (by(try dsimp only);exact⟨h.mono om,oq,oq⟩) rfl rfl
 refine St.cut (σ:=Bool) (123::124::125::[]) ⟨λbb=>[(123,AV.bool bb)],λbb=>(oS bs br code s (p+1+1)),λbb=>True⟩ U ?adG ?akS;case adG=>
  refine aq λI a w U=>?_;refine U.cd (λadH=>?_) λadH=>?_
  .refine zt ?_;exact U.me (hC==17) eZ
  refine aq λI a w U=>?_;exact U.me (hC==18) eZ
 rintro bb I a w al U;change St _ _ (oS bs br code s (p+1+1)) _ _ _ at U;refine U.cd (λadI=>?_) λadI=>?_
 .refine bw λI a w U=>?_;refine U.bz [0,1,2] (aa9 bs br code aR s (p+1+1) (n+2) (h.mono om) om om om) (ai .tt aB) rfl aO rfl λadJ I a w HU U=>?_;obtain⟨HV,Cy⟩:=adJ;change St _ _ (oS bs br code HV (Cy)) _ _ _ at U;replace HU:cJ ((n+2)+800) HV/\0<=Cy/\Cy<=(((n+2)+800:Nat):Int):=HU;obtain⟨adK,akT,akU⟩:=HU;refine zt ?_;refine U.kK (HV,Cy) [0,1,2] rfl .nil (by(try dsimp only);exact⟨adK.mono om,oq,oq⟩) rfl rfl
 refine bw λI a w U=>?_;refine U.bz [0,1,2] (y9 bs br code aR s (p+1+1) (n+2) (h.mono om) om om om 0 (by unfold fy;omega)) (ai .tt (ai .c aB)) rfl aO rfl λr16 I a w sq U=>?_;obtain⟨HW,Cz⟩:=r16;change St _ _ (oS bs br code HW (Cz)) _ _ _ at U;replace sq:cJ ((n+2)+8) HW/\0<=Cz/\Cz<=(((n+2)+8:Nat):Int):=sq;obtain⟨k16,l16,u16⟩:=sq;refine bw λI a w U=>?_;refine U.bz [0,1,2] (y9 bs br code aR HW (Cz) (n+10) k16 om om om 1 (by unfold fy;omega)) (ai .tt (ai .c aB)) rfl aO rfl λr18 I a w wG U=>?_;obtain⟨CA,p7⟩:=r18;change St _ _ (oS bs br code CA (p7)) _ _ _ at U;replace wG:cJ ((n+10)+8) CA/\0<=p7/\p7<=(((n+10)+8:Nat):Int):=wG;obtain⟨k18,l18,u18⟩:=wG;refine bK λI a w U=>?_;refine U.dX [2] (cW br code (p7) (30) om aR) (ai .tt (ai .c aB)) rfl aO rfl λI a w U=>?_;change St _ _ (oS bs br code CA (p7+1)) _ _ _ at U;have NV:=gB code (p7) (30);have NX:=gn code (p7) (30) om;try have adP:=gR code (p7) (n:=30) om
 generalize bE code (p7) (30)=oG at U NV NX adP;refine U.bz [0,1,2] (Pn bs br code aR CA (p7+1) (n+19) (k18.mono om) om om om oG om) (ai .tt (ai .tt aB)) rfl aO rfl λr25 I a w wD U=>?_;obtain⟨wC,CB⟩:=r25;change St _ _ (oS bs br code wC (CB)) _ _ _ at U;replace wD:cJ ((n+19)+60) wC/\0<=CB/\CB<=(((n+19)+60:Nat):Int):=wD;obtain⟨k25,l25,u25⟩:=wD;refine zt ?_;refine U.kK (wC,CB) [0,1,2] rfl .nil (by(try dsimp only);exact⟨k25.mono om,oq,oq⟩) rfl rfl
set_option maxHeartbeats 8000000 in
def PK (br:Nat) (code:List UInt8) (aR:code.length<=1099511627776) (p:Int) (n:Nat) (h0:0<=p) (h1:p<=n) (hn:n<=200000) (jV:Int) (hm:jV<=30):
 bJ prog 53 [AV.val (.pointer (some ⟨br,0,none⟩)),AV.int jV] [Own.box br 147 [cy code,AV.int (p)]] (λr:Nat×dj×Int=>cJ (n+26000) r.2.1/\0<=r.2.2/\r.2.2<=((n+26000:Nat):Int)) (λr=>[Own.box r.1 91 [AV.val (.pointer (some ⟨br,0,none⟩)),AV.int r.2.1.w.time,jh r.2.1.w.aC,cU r.2.1.w.au,fN r.2.1.w.calls,iw r.2.1.w.seen,AV.val r.2.1.lv],Own.row r.2.1.lv 49 11 (r.2.1.list.map Ev.cells),Own.box br 147 [cy code,AV.int (r.2.2)]]) (λr=>AV.val (.pointer (some ⟨r.1,0,none⟩))):=by
 refine bJ.intro 28 func53 rfl ntmps53 rfl aP (λW I a U=>?_);refine aF λI a w U=>?_;refine U.o (.cl (acI ..)) λU=>?_;refine U.o (.bd S1 (.k (.t aT.nil))) λU=>?_;refine U.box rfl .tt λkr I a w U=>?_;refine ao λI a w U=>?_;have U:=U.fC (sz:=11) 49;change St _ _ [Own.box br 147 [cy code,AV.int (p)],Own.box kr 91 [AV.val (.pointer (some ⟨br,0,none⟩)),AV.int (⟨gC,[],.slice none 0 0⟩:dj).w.time,jh (⟨gC,[],.slice none 0 0⟩:dj).w.aC,cU (⟨gC,[],.slice none 0 0⟩:dj).w.au,fN (⟨gC,[],.slice none 0 0⟩:dj).w.calls,iw (⟨gC,[],.slice none 0 0⟩:dj).w.seen,AV.val (⟨gC,[],.slice none 0 0⟩:dj).lv],Own.row (⟨gC,[],.slice none 0 0⟩:dj).lv 49 11 ((⟨gC,[],.slice none 0 0⟩:dj).list.map Ev.cells)] _ _ _ at U;refine U.o (.li (([0,0,3,6,12]:List Int).map iP) ix (.v (.v (.v (.v (.v .nil)))))) λU=>?_;refine U.m λU=>?_;refine U.dX [0] (cW br code p 5 om aR) (ai .tt (ai .c aB)) rfl aO rfl λI a w U=>?_;change St _ _ [Own.box br 147 [cy code,AV.int (p+1)],Own.box kr 91 [AV.val (.pointer (some ⟨br,0,none⟩)),AV.int (⟨gC,[],.slice none 0 0⟩:dj).w.time,jh (⟨gC,[],.slice none 0 0⟩:dj).w.aC,cU (⟨gC,[],.slice none 0 0⟩:dj).w.au,fN (⟨gC,[],.slice none 0 0⟩:dj).w.calls,iw (⟨gC,[],.slice none 0 0⟩:dj).w.seen,AV.val (⟨gC,[],.slice none 0 0⟩:dj).lv],Own.row (⟨gC,[],.slice none 0 0⟩:dj).lv 49 11 ((⟨gC,[],.slice none 0 0⟩:dj).list.map Ev.cells)] _ _ _ at U;refine U.o ((by first|exact dE cG cB .tt .tt (λ_=>by have h9:=iq code p (n:=5) om;(try simp);omega)|exact eG cG cB .tt .tt (λ_=>by have h9:=iq code p (n:=5) om;(try simp);omega)|exact eM cG cB .tt .tt (λ_=>by have h9:=iq code p (n:=5) om;(try simp);omega))) λU=>?_;refine bj λI a w U=>?_;refine U.dX [0] (cW br code (p+1) jV om aR) (ai .tt (ai .tt aB)) rfl aO rfl λI a w U=>?_;change St _ _ [Own.box br 147 [cy code,AV.int (p+1+1)],Own.box kr 91 [AV.val (.pointer (some ⟨br,0,none⟩)),AV.int (⟨gC,[],.slice none 0 0⟩:dj).w.time,jh (⟨gC,[],.slice none 0 0⟩:dj).w.aC,cU (⟨gC,[],.slice none 0 0⟩:dj).w.au,fN (⟨gC,[],.slice none 0 0⟩:dj).w.calls,iw (⟨gC,[],.slice none 0 0⟩:dj).w.seen,AV.val (⟨gC,[],.slice none 0 0⟩:dj).lv],Own.row (⟨gC,[],.slice none 0 0⟩:dj).lv 49 11 ((⟨gC,[],.slice none 0 0⟩:dj).list.map Ev.cells)] _ _ _ at U;have OD:=gB code (p+1) jV;have adS:=aaz (bs:=code) (p:=p+1) hm om;generalize bE code (p+1) jV=yJ at U OD adS;refine ao λI a w U=>?_;refine St.lo (σ:=Int×dj×Int) (7::(run 7 20 [])) ⟨λ⟨y,s1,p1⟩=>[(7,AV.int y)],λ⟨y,s1,p1⟩=>[Own.box br 147 [cy code,AV.int (p1)],Own.box kr 91 [AV.val (.pointer (some ⟨br,0,none⟩)),AV.int s1.w.time,jh s1.w.aC,cU s1.w.au,fN s1.w.calls,iw s1.w.seen,AV.val s1.lv],Own.row s1.lv 49 11 (s1.list.map Ev.cells)],λ⟨y,s1,p1⟩=>cJ (n+10+850*(30-y).toNat) s1/\0<=p1/\p1<=((n+10+850*(30-y).toNat:Nat):Int)/\0<=y/\y<=30⟩ (λ⟨y,s1,p1⟩=>y.toNat) (yJ,(⟨gC,[],.slice none 0 0⟩:dj),p+1+1) U ?aH ?bx;case aH=>exact⟨cJ.start _ _,oq,oq,oq,oq⟩
 rintro⟨y,s1,p1⟩ I a w al U;obtain⟨gI,Ca,Cb,hy0,hy1⟩:=al;dsimp only at U;refine aq λI a w U=>?_;refine cz (λae=>?_) λae=>?_
 .refine aF λI a w U=>?_;refine U.bz [1,2,0] (acS kr br code aR s1 p1 (n+10+850*(30-y).toNat) gI Ca Cb om _) (ai .tt (ai .tt aB)) rfl aO rfl λr26 I a w uv U=>?_;obtain⟨p8,CC⟩:=r26;change St _ _ [Own.box br 147 [cy code,AV.int (CC)],Own.box kr 91 [AV.val (.pointer (some ⟨br,0,none⟩)),AV.int p8.w.time,jh p8.w.aC,cU p8.w.au,fN p8.w.calls,iw p8.w.seen,AV.val p8.lv],Own.row p8.lv 49 11 (p8.list.map Ev.cells)] _ _ _ at U;replace uv:cJ ((n+10+850*(30-y).toNat)+850) p8/\0<=CC/\CC<=(((n+10+850*(30-y).toNat)+850:Nat):Int):=uv;obtain⟨k26,l26,u26⟩:=uv;refine aM λI a w U=>?_;exact U.ag (y-1,p8,CC) (⟨k26.mono om,oq,oq,oq,oq⟩)
 refine zt ?_;refine aq λI a w U=>?_;refine U.bD (kr,s1,p1) [1,2,0] rfl (.cons (.t rfl) .nil) (by(try dsimp only);exact⟨gI.mono om,oq,oq⟩) rfl rfl
end Go.Proofs.YtldbakcpcfdlaaaGreat
