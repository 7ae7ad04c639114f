/- Part 46: contracts of functions, plain facts. -/
import Derived.Test.YtdanidpleofjgaaGreatP42
set_option linter.all false
set_option maxRecDepth 100000
set_option maxHeartbeats 4000000
namespace Go.Proofs.YtdanidpleofjgaaGreat
open Go Go.RowKit Tryz
attribute [local irreducible] wpList Code.wp Ok
def af4 (l:List (ax)) (p:(ax)->Bool) (fv:AV) (hf:∀x:ax,x∈l->kV prog fv [x.av] (AV.bool (p x))):
 Fn prog 113 [dR l,fv] (AV.int (df p l)):=by
 refine Fn.go 19 func113 ntmps113 (λW I a U=>?_);have hle:=U.eC (t:=0) rfl;refine aZ λI a w U=>?_;refine St.lo (σ:=Nat) (run 2 4 (run 11 8 [])) ⟨λk=>[(8,AV.int k)],λk=>[],λk=>k<=l.length/\∀i,i<k->p (ab l i)=false⟩ (λk=>l.length-k) 0 U ?aJ ?bF;case aJ=>exact⟨Nat.zero_le _,λi hi=>by omega⟩
 rintro k I a w an U;obtain⟨hk,aT⟩:=an;refine aB λI a w U=>?_;refine cz (λae=>?_) λae=>?_
 .refine gT λI a w U=>?_;refine U.o (uT (hf _ (bf ae)) .tt (az .tt aI)) λU=>?_;refine zt ?_;refine U.cd (λah=>?_) λah=>?_
  .refine dG ?_;exact fW (mQ ae aT ah).symm
  refine aF λI a w U=>?_;exact U.ag (k+1) (⟨ae,λi h1=>by rcases Nat.lt_succ_iff_lt_or_eq.1 h1 with h|h;exact aT i h;rw[h];exact ah⟩)
 refine zt ?_;refine bh ?_;exact fW (my om aT).symm
def af5 (l:List (ax)) (p:(ax)->Bool) (fv:AV) (hf:∀x:ax,x∈l->kV prog fv [x.av] (AV.bool (p x))):
 Fn prog 57 [dR l,fv] (AV.bool (hasB p l)):=by
 refine Fn.go 9 func57 ntmps57 (λW I a U=>?_);refine bm λI a w U=>?_;refine U.o (.cl (af4 _ _ _ hf)) λU=>?_;refine dG ?_;rfl
def af6 (m:ax) (h1:kv m.aO) (h2:kv m.to):
 Fn prog 58 [m.av] (AV.bool (w8 m)):=by
 refine Fn.go 6 func58 ntmps58 (λW I a U=>?_);refine bm λI a w U=>?_;refine U.o (.c1 (KG _ h1 h2)) λU=>?_;refine dG ?_;rfl
def af7 (x:aj) (vM:∀q∈x.calls,q.aC.length<=1048576):
 Fn prog 18 [x.av] (AV.bool (ez x)):=by
 refine Fn.go 88 func18 ntmps18 (λW I a U=>?_);have lens:x.aA.length<=9223372036854775807/\x.al.length<=9223372036854775807/\x.calls.length<=9223372036854775807/\x.seen.length<=9223372036854775807:=⟨U.ln 0 1,U.ln 0 2,U.ln 0 3,U.ln 0 4⟩;refine bB λI a w U=>?_;refine U.o (.cl (jE ..)) λU=>?_;refine XH λI a w U=>?_;refine U.q .F (OI (λhg=>SF x.calls x.time (by simp[aH] at hg;omega) vM) (az .ag (az .ag aI))) λU=>?_;refine aF λI a w U=>?_;refine U.cd (λae=>?_) λae=>?_
 .rw[Td] at ae;replace ae:=nt ae;refine bh ?_;exact bP (by unfold ez;rw[Cr,Cs];revert ae;cases pG x<;>cases j6 x.calls x.time<;>simp)
 rw[Td] at ae;replace ae:=nf ae;refine aB λI a w U=>?_;refine St.lo (σ:=Nat) (run 2 2 (run 24 36 [])) ⟨λk=>[(3,AV.int k)],λk=>[],λk=>k<=x.aA.length/\∀i,i<k->(rU x) i=true⟩ (λk=>x.aA.length-k) 0 U ?aJ ?bF;case aJ=>exact⟨Nat.zero_le _,λi hi=>by omega⟩
 rintro k I a w an U;obtain⟨pH,aT⟩:=an;refine cI λI a w U=>?_;refine cz (λah=>?_) λah=>?_
 .refine cj λI a w U=>?_;refine U.o (.c1 (vN ..)) λU=>?_;refine Bm λI a w U=>?_;refine U.cd (λar=>?_) λar=>?_
  .rw[SX] at ar;replace ar:=nt ar;refine bh ?_;exact bP (by unfold ez;rw[Cr,Cs];rw[fY (f:=rU x) ah ar];simp)
  rw[SX] at ar;replace ar:=nf ar;refine aR λI a w U=>?_;exact U.ag (k+1) (⟨by omega,gI aT ar⟩)
 refine zt ?_;refine aB λI a w U=>?_;refine St.lo (σ:=Nat) (2::(4::(run 14 60 []))) ⟨λk2=>[(4,AV.int k2)],λk2=>[],λk2=>k2<=x.al.length/\∀i,i<k2->(λi=>bI (ab x.al i)) i=true⟩ (λk2=>x.al.length-k2) 0 U ?eF ?jS;case eF=>exact⟨Nat.zero_le _,λi hi=>by omega⟩
 rintro k2 I a w an U;obtain⟨zI,j7⟩:=an;refine cI λI a w U=>?_;refine cz (λaM=>?_) λaM=>?_
 .refine cj λI a w U=>?_;refine U.o (.c1 (Jg ..)) λU=>?_;refine aB λI a w U=>?_;refine U.cd (λaP=>?_) λaP=>?_
  .replace aP:=nt aP;refine bh ?_;exact bP (by unfold ez;rw[Cr,Cs];rw[fY (f:=λi=>bI (ab x.al i)) aM aP];simp)
  replace aP:=nf aP;refine aR λI a w U=>?_;exact U.ag (k2+1) (⟨by omega,gI j7 aP⟩)
 refine zt ?_;refine aB λI a w U=>?_;refine St.lo (σ:=Nat) (2::(5::(run 14 74 []))) ⟨λk3=>[(5,AV.int k3)],λk3=>[],λk3=>k3<=x.seen.length/\∀i,i<k3->(λi=>bU (ab x.seen i)) i=true⟩ (λk3=>x.seen.length-k3) 0 U ?jh ?oY;case jh=>exact⟨Nat.zero_le _,λi hi=>by omega⟩
 rintro k3 I a w an U;obtain⟨RT,vJ⟩:=an;refine cI λI a w U=>?_;refine cz (λbx=>?_) λbx=>?_
 .refine cj λI a w U=>?_;refine U.o (.cl (sH ..)) λU=>?_;refine aB λI a w U=>?_;refine U.cd (λbt=>?_) λbt=>?_
  .replace bt:=nt bt;refine bh ?_;exact bP (by unfold ez;rw[Cr,Cs];rw[fY (f:=λi=>bU (ab x.seen i)) bx bt];simp)
  replace bt:=nf bt;refine aR λI a w U=>?_;exact U.ag (k3+1) (⟨by omega,gI vJ bt⟩)
 refine zt ?_;refine bh ?_;exact bP (by unfold ez;rw[Cr,Cs];rw[fP aT om,fP j7 om,fP vJ om];rw[Bool.and_eq_true] at ae;rw[ae.1,ae.2];rfl)
def TM {w:aj} (h:bR w) (m:ax):bR (iL w m):=by
 unfold iL;dsimp only;split
 .exact h
 rename_i hn;obtain⟨h1,h2,h3⟩:=l5 (l:=w.calls) (ao:=m.to-10) om;obtain⟨e1,e2,e3,_⟩:=Te (ab w.calls (bY w.calls (m.to-10)).toNat) m w.time;have hq:=zR (m:=m) (h.call h1);have hg:=h.Tf h1 h3 hq e1 e2 e3;split
 .exact hg.aep _ (aeo hq)
 exact hg
def af8 {w:aj} (h:bR w) (e:Ev):bR (gP w e).1:=by
 unfold gP;split
 .rename_i hr;simp only[aH,Bool.and_eq_true,decide_eq_true_eq] at hr;have hm:bI (ab w.al e.word.toNat)=true:=h.words _ (bf om);have h1:bR (if e.kind=5\/e.fe=0 then{w with al:=w.al.take e.word.toNat++w.al.drop (e.word.toNat+1)} else w):=by
   split
   .have U:=xu w.al e.word.toNat;exact⟨h.time,h.aA,h.site,Nat.le_trans U.length_le h.al,λm hm=>h.words m (U.subset hm),h.seen,h.kj,h.calls⟩
   exact h
  have fy:(if e.kind=5\/e.fe=0 then{w with al:=w.al.take e.word.toNat++w.al.drop (e.word.toNat+1)} else w).aA=w.aA:=by split<;>rfl
  dsimp only;generalize (if e.kind=5\/e.fe=0 then{w with al:=w.al.take e.word.toNat++w.al.drop (e.word.toNat+1)} else w)=w1 at*;split
  .exact h1
  split
  .exact TM h1 _
  rename_i bq;have ey:0<=(ab w.al e.word.toNat).to/\(ab w.al e.word.toNat).to<=3:=by
   have:=(kJ hm).2.2.1;simp only[kb,cr,aH,Bool.or_eq_true,Bool.and_eq_true,decide_eq_true_eq] at this bq;omega
  have hi:(ab w.al e.word.toNat).to.toNat<4:=by omega
  have zY:=(h.site _ hi).2;have:=(h1.server hi (s:=(cK (ab w.aA (ab w.al e.word.toNat).to.toNat) (ab w.al e.word.toNat)).1) (aeD zY) (by rw[ae5,fy])).send (S6 (m:=ab w.al e.word.toNat) zY);rw[<-fy] at this⊢;exact this
 exact h
def af9 {w:aj} (h:bR w) (e:Ev) (ha:cr e.at_=true):bR (eN w e).1:=by
 rw[iF] at ha;have hi:e.at_.toNat<4:=by omega
 obtain⟨_,U⟩:=h.site _ hi;unfold eN;dsimp only;split
 .exact h.server hi (S5 U) rfl
 split
 .exact h.server hi (SY U) rfl
 split
 .exact h.send (Fl U)
 split
 .rename_i hk;have hp:=vq hk;have hg:=zL U hk;exact(h.server hi hg rfl).send λm hm=>by
   obtain rfl:m=_:=by simpa using hm
   exact Fk hg hp.2.1 hp.2.2.1
 exact h
def TO {w:aj} (h:bR w) (e:Ev) (an:(gz w e).2=true):bR (gz w e).1:=by
 unfold gz at*;split at an
 .rename_i hk;rw[if_pos hk];unfold jJ at*;split at an
  .rename_i hc;rw[if_pos hc];exact⟨h.time,h.aA,h.site,h.al,h.words,h.seen,h.kj,an⟩
  cases an
 rename_i hk;rw[if_neg hk];dsimp only at an⊢;split
 .exact h
 rename_i hn;obtain⟨h1,h2,h3⟩:=l5 (l:=w.calls) (ao:=e.ao) om;have hq:=h.call h1;obtain⟨he,_⟩:=nu h3;split
 .refine h.Tf h1 h3 ⟨hq.ao,hq.num,hq.keys,hq.val,hq.ctx,hq.aL,hq.bH,hq.fits,hq.has,hq.sorted,hq.aK,hq.vR,hq.full,hq.put,hq.read,hq.open_,λe=>absurd he e⟩ rfl rfl rfl
 exact h.send (Kz hq)
def KV {w:aj} (h:bR w) (e:Ev) (an:(bX w e).2=true):bR (bX w e).1:=by
 have h1:=h.later;unfold bX at*;dsimp only at an⊢;split
 .rename_i hk;rw[if_pos hk] at an;exact TO h1 e an
 split
 .exact af8 h1 e
 split
 .rename_i hk;rw[Bool.and_eq_true] at hk;exact af9 h1 e hk.2
 exact h1
def zZ {w:aj} (h:ez w=true) (e:Ev):ez (eL w e).1=true:=by
 unfold eL;split
 .rename_i hc;refine iy.2 ⟨KV (iy.1 h).1 e hc.2,?_⟩;show(bX w e).1.time<=99999;rw[xZ];omega
 exact h
def TP (x:aj) (h:zT x):
 dr prog 52 [x.av] [] (λ_=>True) x.PJ x.Zo:=by
 refine dr.intro 62 func52 rfl ntmps52 rfl aS (λW I a U=>?_);obtain⟨⟨h1,h2⟩,⟨h3,h4⟩,⟨h5,h6⟩,h7,h8⟩:=h;have U:=U.hP (sz:=7) 43;have U:=U.hP (sz:=13) 53;have U:=U.hP (sz:=1) 41;refine bK λI a w U=>?_;refine U.alloc rfl dM ei λb2 I a w U=>?_;refine zt ?_;have U:=U.jc;have U:=U.jc;have U:=U.jc;refine U.Bj 7 _ (rp 4 [([5],some (5,[14])),([6],some (6,[15,14])),([4],some (4,[3]))]) rfl aS aS rfl ?_;simp only[TD];refine ef ?_;refine aY.pt 5 rfl rfl (aeC x.al h3 h4) (az .r aI) ?_;refine aY.HZ 6 [14] (λa=>AV.agg [AV.int x.time,AV.val (.slice none 0 0),AV.val (a.tmps.getD 14 undef),AV.val (.slice none 0 0),AV.val (.slice none 0 0)]) rfl rfl rfl rfl (λa b h=>by simp only[List.forall_mem_cons] at h;simp only[h]) rfl (λF a I he=>Ok.to (.bd yK (.k (bc.c Yt rfl .tt (w3 (t:=14) he) bc.nil)))) ?_;refine aY.alloc 4 rfl rfl dM ei<|.nil ?_;intro I a w U;obtain⟨b3,U⟩:=U.oL (d:=3) 4 rfl rfl;change St _ _ [Own.row (.slice none 0 0) 43 7 [],Own.row (.slice none 0 0) 53 13 [],Own.row (.slice none 0 0) 41 1 [],Own.box b2 28 [AV.val (.int .i64 0),AV.rows 7 [],AV.rows 15 [],AV.rows 13 [],AV.rows 1 []],Own.box b3 28 _,Own.row (a.tmps.getD 14 undef) 84 15 (x.al.map ax.cells),Own.is (AV.agg [AV.int x.time,AV.val (.slice none 0 0),AV.val (a.tmps.getD 14 undef),AV.val (.slice none 0 0),AV.val (.slice none 0 0)]) (a.tmps.getD 15 undef)] _ _ _ at U;have U:=U.H4 (d:=15) 6 rfl;have U:=U.drop 6;generalize a.tmps.getD 14 undef=mC at U;show wpList _ _ _ _ _ _;refine cI λI a w U=>?_;refine St.lo (σ:=Nat×Value) (5::(run 12 19 [])) ⟨λ⟨k,p⟩=>[(19,AV.int k)],λ⟨k,p⟩=>[Own.row p 43 7 ((x.aA.take k).map Server.cells),Own.row (.slice none 0 0) 53 13 ([]),Own.row (.slice none 0 0) 41 1 ([]),Own.box b2 28 [AV.val (.int .i64 0),AV.rows 7 [],AV.rows 15 [],AV.rows 13 [],AV.rows 1 []],Own.box b3 28 [AV.int x.time,AV.val p,AV.val mC,AV.val (.slice none 0 0),AV.val (.slice none 0 0)],Own.row mC 84 15 (x.al.map ax.cells)],λ⟨k,p⟩=>k<=x.aA.length⟩ (λ⟨k,p⟩=>x.aA.length-k) (0,(.slice none 0 0)) U ?aJ ?bF;case aJ=>exact Nat.zero_le _
 rintro⟨k,p⟩ I a w an U;have hk:k<=x.aA.length:=an;dsimp only at U;refine aB λI a w U=>?_;refine cz (λae=>?_) λae=>?_
 .refine aG λI a w U=>?_;refine U.alloc rfl cv dN λb5 I a w U=>?_;refine aB λI a w U=>?_;obtain⟨I,U⟩:=U.fb 6 5;refine U.dt 5 ?_;simp only[TD];refine dD ?_;refine .o (.c1 (uu _ (h2 _ (bf ae)))) ?_;refine .o (.li [(ab x.aA k).cells] DT (.u .nil)) ?_;refine .nil ?_;intro I a w U;refine U.ap 0 λJq a w U=>?_;rw[cF,<-eT ae] at U;refine U.o .fv λU=>?_;try have ao0:=U.ff 0 rfl
  refine aR λI a w U=>?_;have U:=U.drop 6;exact U.ag (k+1,Jq) (ae)
 refine wp_exit<|cy<|cy<|fk<|bj<|wp_seq<|wp_seq ?_;rw[List.take_of_length_le om] at U;refine aZ λI a w U=>?_;refine St.lo (σ:=Nat×Value) (7::(run 12 34 [])) ⟨λ⟨k,q⟩=>[(34,AV.int k)],λ⟨k,q⟩=>[Own.row p 43 7 (x.aA.map Server.cells),Own.row q 53 13 ((x.calls.take k).map Call.cells),Own.row (.slice none 0 0) 41 1 ([]),Own.box b2 28 [AV.val (.int .i64 0),AV.rows 7 [],AV.rows 15 [],AV.rows 13 [],AV.rows 1 []],Own.box b3 28 [AV.int x.time,AV.val p,AV.val mC,AV.val q,AV.val (.slice none 0 0)],Own.row mC 84 15 (x.al.map ax.cells)],λ⟨k,q⟩=>k<=x.calls.length⟩ (λ⟨k,q⟩=>x.calls.length-k) (0,(.slice none 0 0)) U ?eF ?jS;case eF=>exact Nat.zero_le _
 rintro⟨k,q⟩ I a w an U;have hk:k<=x.calls.length:=an;dsimp only at U;refine aB λI a w U=>?_;refine cz (λah=>?_) λah=>?_
 .refine aG λI a w U=>?_;refine U.alloc rfl fI j4 λb7 I a w U=>?_;refine aB λI a w U=>?_;obtain⟨I,U⟩:=U.fb 6 7;refine U.dt 5 ?_;simp only[TD];refine dD ?_;refine .o (.c1 (Tj _ (h6 _ (bf ah)))) ?_;refine .o (.li [(ab x.calls k).cells] DW (.u .nil)) ?_;refine .nil ?_;intro I a w U;refine U.ap 1 λFw a w U=>?_;rw[cF,<-eT ah] at U;refine U.o .fv λU=>?_;try have aeM:=U.ff 1 rfl
  refine aR λI a w U=>?_;have U:=U.drop 6;exact U.ag (k+1,Fw) (ah)
 refine wp_exit<|cy<|cy<|fk<|bj<|wp_seq<|wp_seq ?_;rw[List.take_of_length_le om] at U;refine aZ λI a w U=>?_;refine St.lo (σ:=Nat×Value) (9::(run 12 49 [])) ⟨λ⟨k,r⟩=>[(49,AV.int k)],λ⟨k,r⟩=>[Own.row p 43 7 (x.aA.map Server.cells),Own.row q 53 13 (x.calls.map Call.cells),Own.row r 41 1 ((x.seen.take k).map fX),Own.box b2 28 [AV.val (.int .i64 0),AV.rows 7 [],AV.rows 15 [],AV.rows 13 [],AV.rows 1 []],Own.box b3 28 [AV.int x.time,AV.val p,AV.val mC,AV.val q,AV.val r],Own.row mC 84 15 (x.al.map ax.cells)],λ⟨k,r⟩=>k<=x.seen.length⟩ (λ⟨k,r⟩=>x.seen.length-k) (0,(.slice none 0 0)) U ?jh ?oY;case jh=>exact Nat.zero_le _
 rintro⟨k,r⟩ I a w an U;have hk:k<=x.seen.length:=an;dsimp only at U;refine aB λI a w U=>?_;refine cz (λar=>?_) λar=>?_
 .refine aR λI a w U=>?_;refine U.dt 5 ?_;simp only[TD];refine dD ?_;refine .o (.cl (tX _ (h8 _ (bf ar)))) ?_;refine .o (.li [fX (ab x.seen k)] HY (.v .nil)) ?_;refine .nil ?_;intro I a w U;refine U.ap 2 λv58 a w U=>?_;rw[cF,<-eT ar] at U;refine U.o .fv λU=>?_;try have ao1:=U.ff 2 rfl
  refine aR λI a w U=>?_;exact U.ag (k+1,v58) (ar)
 refine wp_exit<|cy<|cy<|fk<|bj<|wp_seq ?_;rw[List.take_of_length_le om] at U;refine aF λI a w U=>?_;exact U.dw (p,mC,q,r) [0,5,1,2] rfl (.cons (.s 3 dM rfl rfl (by first|rfl|assumption)) .nil) trivial rfl rfl
def TQ {q:Call} {t:Int} (h:dH q t):(ie q).length<=1048576/\∀y∈ie q,kH y:=by
 refine⟨?_,λy hy=>xH (Kz h y hy)⟩;cases hw:cD q
 .unfold ie;rw[hw];exact Nat.zero_le _
 rw[<-SV hw (Nat.le_refl _),J8 q _ (Nat.le_refl _)];have:=KH (q:=q);have:=h.lens;omega
def Reach.aK {w:aj} (h:Reach w):bR w:=by
 induction h with
 |start=>exact(iy.1 zU).1
 |step _ an ih=>exact KV ih _ an
def c9.al {n:Nat} {s:dU} (h:c9 n s):s.w.al.length<=60:=h.reach.aK.al
def oS (bs br:Nat) (code:List UInt8) (s:dU) (p:Int):List Own:=[Own.box bs 77 [AV.val (.pointer (some ⟨br,0,none⟩)),AV.int s.w.time,mL s.w.aA,dR s.w.al,jl s.w.calls,kY s.w.seen,AV.val s.lv],Own.row s.lv 30 11 (s.list.map Ev.cells),Own.box br 100 [ia code,AV.int (p)]]
def gA (br:Nat) (code:List UInt8) (p n:Int) (hp:0<=p/\p<=1099511627775) (hb:code.length<=1099511627776):
 jC prog 41 [AV.val (.pointer (some ⟨br,0,none⟩)),AV.int n] [Own.box br 100 [ia code,AV.int (p)]] [Own.box br 100 [ia code,AV.int (p+1)]] (AV.int (dE code p n)):=by
 refine dr.intro 99 func41 rfl ntmps41 rfl aS (λW I a U=>?_);refine HW λI a w U=>?_;refine U.cd (λae=>?_) λae=>?_
 .refine aB λI a w U=>?_;refine U.dw () [0] rfl (.cons (.t rfl) .nil) trivial rfl ?_;exact congrArg AV.int (aax ae)
 replace ae:=ZT ae;refine Bo λI a w U=>?_;refine cz (λah=>?_) λah=>?_
 .refine gT λI a w U=>?_;refine U.o (Ho aS rh .tt (λ_=>by have y1:=(ab code (p+1-1).toNat).toNat_lt;omega)) λU=>?_;refine U.m λU=>?_;refine U.o (sk .tt .tt (λ_=>by have y1:=(ab code (p+1-1).toNat).toNat_lt;omega)) λU=>?_;refine aB λI a w U=>?_;refine U.dw () [0] rfl (.cons (.t rfl) .nil) trivial rfl<|congrArg AV.int ?_;unfold dE;rw[if_neg ae,if_pos om,Int.add_sub_cancel];rfl
 refine wp_skip<|bj<|wp_seq<|U.dk ?_;refine pC ?_;refine .o (sk .tt .tt (λ_=>by omega)) ?_;refine .o ((by first|exact gS wZ wY .tt .tt (λ_=>by have h9:=Int.emod_nonneg (p+1-1) (show(code.length:Int)≠0 by omega);have h8:=Int.emod_lt_of_pos (p+1-1) (show(0:Int)<code.length by omega);omega)|exact ku wZ wY .tt .tt (λ_=>by have h9:=Int.emod_nonneg (p+1-1) (show(code.length:Int)≠0 by omega);have h8:=Int.emod_lt_of_pos (p+1-1) (show(0:Int)<code.length by omega);omega)|exact kS wZ wY .tt .tt (λ_=>by have h9:=Int.emod_nonneg (p+1-1) (show(code.length:Int)≠0 by omega);have h8:=Int.emod_lt_of_pos (p+1-1) (show(0:Int)<code.length by omega);omega))) ?_;refine bJ ?_;refine .o (Ho aS rh .tt (λ_=>by have y1:=(ab code ((p+1-1)%(code.length:Int)).toNat).toNat_lt;omega)) ?_;refine .o (lP .tt .c (λ_=>by have y1:=n6 code ((p+1-1)%code.length);have y2:=n9 code ((p+1-1)%code.length);have y3:=n6 code (((p+1-1)*7+3)%code.length);have y4:=n9 code (((p+1-1)*7+3)%code.length);have y5:=xd (k:=p+1-1) (m:=code.length) om om;unfold pV at y1 y2 y3 y4;omega)) ?_;refine gF ?_;refine .o (lP .tt .c (λ_=>by omega)) ?_;refine iC ?_;refine .o (sk .tt .tt (λ_=>by omega)) ?_;refine .o ((by first|exact gS wZ wY .tt .tt (λ_=>by have h9:=Int.emod_nonneg ((p+1-1)*7+3) (show(code.length:Int)≠0 by omega);have h8:=Int.emod_lt_of_pos ((p+1-1)*7+3) (show(0:Int)<code.length by omega);omega)|exact ku wZ wY .tt .tt (λ_=>by have h9:=Int.emod_nonneg ((p+1-1)*7+3) (show(code.length:Int)≠0 by omega);have h8:=Int.emod_lt_of_pos ((p+1-1)*7+3) (show(0:Int)<code.length by omega);omega)|exact kS wZ wY .tt .tt (λ_=>by have h9:=Int.emod_nonneg ((p+1-1)*7+3) (show(code.length:Int)≠0 by omega);have h8:=Int.emod_lt_of_pos ((p+1-1)*7+3) (show(0:Int)<code.length by omega);omega))) ?_;refine bJ ?_;refine .o (Ho aS rh .tt (λ_=>by have y1:=(ab code (((p+1-1)*7+3)%(code.length:Int)).toNat).toNat_lt;omega)) ?_;refine .o (lP .tt .c (λ_=>by have y1:=n6 code ((p+1-1)%code.length);have y2:=n9 code ((p+1-1)%code.length);have y3:=n6 code (((p+1-1)*7+3)%code.length);have y4:=n9 code (((p+1-1)*7+3)%code.length);have y5:=xd (k:=p+1-1) (m:=code.length) om om;unfold pV at y1 y2 y3 y4;omega)) ?_;refine .o (mH .tt .tt (λ_=>by have y1:=n6 code ((p+1-1)%code.length);have y2:=n9 code ((p+1-1)%code.length);have y3:=n6 code (((p+1-1)*7+3)%code.length);have y4:=n9 code (((p+1-1)*7+3)%code.length);have y5:=xd (k:=p+1-1) (m:=code.length) om om;unfold pV at y1 y2 y3 y4;omega)) ?_;refine bJ ?_;refine .o (lP .tt .c (λ_=>by omega)) ?_;refine .o (mH .tt .tt (λ_=>by have y1:=n6 code ((p+1-1)%code.length);have y2:=n9 code ((p+1-1)%code.length);have y3:=n6 code (((p+1-1)*7+3)%code.length);have y4:=n9 code (((p+1-1)*7+3)%code.length);have y5:=xd (k:=p+1-1) (m:=code.length) om om;unfold pV at y1 y2 y3 y4;omega)) ?_;refine iC ?_;refine .o (yy .tt .tt (λ_=>by omega)) ?_;refine .o (lP .tt .c (λ_=>by have y1:=n6 code ((p+1-1)%code.length);have y2:=n9 code ((p+1-1)%code.length);have y3:=n6 code (((p+1-1)*7+3)%code.length);have y4:=n9 code (((p+1-1)*7+3)%code.length);have y5:=xd (k:=p+1-1) (m:=code.length) om om;unfold pV at y1 y2 y3 y4;omega)) ?_;refine .o (mH .tt .tt (λ_=>by have y1:=n6 code ((p+1-1)%code.length);have y2:=n9 code ((p+1-1)%code.length);have y3:=n6 code (((p+1-1)*7+3)%code.length);have y4:=n9 code (((p+1-1)*7+3)%code.length);have y5:=xd (k:=p+1-1) (m:=code.length) om om;unfold pV at y1 y2 y3 y4;omega)) ?_;refine bJ ?_;refine .nil ?_;intro I a w U;have u9:=acI (bs:=code) (k:=p) hp.1 om om;rw[Int.add_sub_cancel] at U;change St _ _ _ ((6,AV.int (xy code p))::_) _ _ at U;generalize hX:xy code p=X at U u9;refine aG λI a w U=>?_;refine U.o (yy .tt .c (λ_=>by omega)) λU=>?_;refine U.o (N4 .tt .tt (λ_=>by omega)) λU=>?_;refine bm λI a w U=>?_;refine U.o (sk .tt .tt (λ_=>by have:=N2 (m:=X) (n:=X/64);have:=N3 (m:=X) (n:=X/64) om om;omega)) λU=>?_;refine aB λI a w U=>?_;refine U.dw () [0] rfl (.cons (.t rfl) .nil) trivial rfl<|congrArg AV.int ?_;unfold dE;rw[if_neg ae,if_neg om,hX]
def KW (x:aj) (h:zT x):
 Fn prog 44 [x.av] (x.av):=by
 refine Fn.go 69 func44 ntmps44 (λW I a U=>?_);obtain⟨⟨h1,h2⟩,⟨h3,h4⟩,⟨h5,h6⟩,h7,h8⟩:=h;have U:=U.hP (sz:=7) 43;have U:=U.hP (sz:=13) 53;have U:=U.hP (sz:=1) 41;refine bK λI a w U=>?_;refine U.alloc rfl dM ei λb2 I a w U=>?_;refine zt ?_;refine U.da 7 ?_;simp only[TD];refine ef ?_;refine .o (.cl (JW x.al h3 h4)) ?_;refine .o (.bd yK (.k (.k bc.nil))) ?_;refine gJ.alloc dM ei<|.nil ?_;intro I a w U;obtain⟨b3,U⟩:=U.uX (d:=3) rfl;refine aF λI a w U=>?_;refine St.lo (σ:=Nat×Value) (4::(run 18 13 [])) ⟨λ⟨k,p⟩=>[(4,AV.int k)],λ⟨k,p⟩=>[Own.row p 43 7 ((x.aA.take k).map Server.cells),Own.row (.slice none 0 0) 53 13 ([]),Own.row (.slice none 0 0) 41 1 ([]),Own.box b2 28 [AV.val (.int .i64 0),AV.rows 7 [],AV.rows 15 [],AV.rows 13 [],AV.rows 1 []],Own.box b3 28 [AV.int x.time,AV.val p,dR x.al,AV.val (.slice none 0 0),AV.val (.slice none 0 0)]],λ⟨k,p⟩=>k<=x.aA.length⟩ (λ⟨k,p⟩=>x.aA.length-k) (0,(.slice none 0 0)) U ?aJ ?bF;case aJ=>exact Nat.zero_le _
 rintro⟨k,p⟩ I a w an U;have hk:k<=x.aA.length:=an;dsimp only at U;refine cI λI a w U=>?_;refine cz (λae=>?_) λae=>?_
 .refine zt ?_;refine U.dt 9 ?_;simp only[TD];refine mo ?_;refine .o (.c1 (Ci _ (h2 _ (bf ae)))) ?_;refine .o (.li [(ab x.aA k).cells] DT (.u .nil)) ?_;refine .nil ?_;intro I a w U;refine U.ap 0 λzF a w U=>?_;rw[cF,<-eT ae] at U;refine U.o .fv λU=>?_;try have afC:=U.ff 0 rfl
  refine aZ λI a w U=>?_;exact U.ag (k+1,zF) (ae)
 refine wp_exit<|cy<|cy<|fk<|bj<|wp_seq<|wp_seq ?_;rw[List.take_of_length_le om] at U;refine aB λI a w U=>?_;refine St.lo (σ:=Nat×Value) (5::(run 18 31 [])) ⟨λ⟨k,q⟩=>[(5,AV.int k)],λ⟨k,q⟩=>[Own.row p 43 7 (x.aA.map Server.cells),Own.row q 53 13 ((x.calls.take k).map Call.cells),Own.row (.slice none 0 0) 41 1 ([]),Own.box b2 28 [AV.val (.int .i64 0),AV.rows 7 [],AV.rows 15 [],AV.rows 13 [],AV.rows 1 []],Own.box b3 28 [AV.int x.time,AV.val p,dR x.al,AV.val q,AV.val (.slice none 0 0)]],λ⟨k,q⟩=>k<=x.calls.length⟩ (λ⟨k,q⟩=>x.calls.length-k) (0,(.slice none 0 0)) U ?eF ?jS;case eF=>exact Nat.zero_le _
 rintro⟨k,q⟩ I a w an U;have hk:k<=x.calls.length:=an;dsimp only at U;refine cI λI a w U=>?_;refine cz (λah=>?_) λah=>?_
 .refine zt ?_;refine U.dt 9 ?_;simp only[TD];refine mo ?_;refine .o (.c1 (JS _ (h6 _ (bf ah)))) ?_;refine .o (.li [(ab x.calls k).cells] DW (.u .nil)) ?_;refine .nil ?_;intro I a w U;refine U.ap 1 λKj a w U=>?_;rw[cF,<-eT ah] at U;refine U.o .fv λU=>?_;try have ao2:=U.ff 1 rfl
  refine aZ λI a w U=>?_;exact U.ag (k+1,Kj) (ah)
 refine wp_exit<|cy<|cy<|fk<|bj<|wp_seq<|wp_seq ?_;rw[List.take_of_length_le om] at U;refine aB λI a w U=>?_;refine St.lo (σ:=Nat×Value) (6::(run 19 49 [])) ⟨λ⟨k,r⟩=>[(6,AV.int k)],λ⟨k,r⟩=>[Own.row p 43 7 (x.aA.map Server.cells),Own.row q 53 13 (x.calls.map Call.cells),Own.row r 41 1 ((x.seen.take k).map fX),Own.box b2 28 [AV.val (.int .i64 0),AV.rows 7 [],AV.rows 15 [],AV.rows 13 [],AV.rows 1 []],Own.box b3 28 [AV.int x.time,AV.val p,dR x.al,AV.val q,AV.val r]],λ⟨k,r⟩=>k<=x.seen.length⟩ (λ⟨k,r⟩=>x.seen.length-k) (0,(.slice none 0 0)) U ?jh ?oY;case jh=>exact Nat.zero_le _
 rintro⟨k,r⟩ I a w an U;have hk:k<=x.seen.length:=an;dsimp only at U;refine cI λI a w U=>?_;refine cz (λar=>?_) λar=>?_
 .refine zt ?_;refine U.dt 10 ?_;simp only[TD];refine cB ?_;refine .o (uZ en cV) ?_;refine gF ?_;refine .o (DG en cV rfl .tt .r (λ_=>by have:=h8 _ (bf ar);simp;omega)) ?_;refine .o (.li [fX (ab x.seen k)] HY (.v .nil)) ?_;refine .nil ?_;intro I a w U;refine U.ap 2 λv66 a w U=>?_;rw[cF,<-eT ar] at U;refine U.o .fv λU=>?_;try have ao3:=U.ff 2 rfl
  refine aZ λI a w U=>?_;exact U.ag (k+1,v66) (ar)
 refine wp_exit<|cy<|cy<|fk<|bj<|wp_seq ?_;rw[List.take_of_length_le om] at U;obtain⟨I,U⟩:=U.fu 0 1 4;obtain⟨I,U⟩:=U.fu 1 3 4;obtain⟨I,U⟩:=U.fu 2 4 4;have U:=U.nf;refine aF λI a w U=>?_;refine U.ret rfl (.cons (.sx 3) aW.nil) ?_;rfl
structure Inv (w:aj):Prop where
 aK:bR w
 fits:∀i,i<4->∀k,k<3->lr (ab (sv w i).aw k) (ab (sv w (bL i)).aw k)=true
 o6:∀i,i<4->∀v∈(sv w i).ai,behind (sv w i) (sv w (bL i)) (vk v)->v∈(sv w (bL i)).ai
 rW:∀i,i<4->∀v∈(sv w i).waits,behind (sv w i) (sv w (bL i)) (vk v)->v∈(sv w (bL i)).ai\/v∈(sv w (bL i)).waits
 CE:∀i,i<4->∀v∈(sv w i).ai,∀d∈v.aQ,∃u,u.aU=d/\bn w (i/2) u
 mb:∀i,i<4->∀v∈(sv w i).waits,bn w (1-i/2) v
 aV:∀i,i<4->∀d∈(sv w i).aV,∃u,u.aU=d/\bn w (i/2) u
 aD:∀i,i<4->∀d∈(sv w i).aD,bM d.aq.site=((i/2:Nat):Int)
 p8:∀i,i<4->∀v∈(sv w i).ai,bM v.aq.site=((i/2:Nat):Int)->¬behind (sv w i) (sv w (bL i)) (vk v)->v.aU∈(sv w i).aD\/mu w (1-i/2) v
 home:∀σ v,bn w σ v->bM v.aq.site=v.ao/\bn w v.ao.toNat v
 uniq:∀σ τ u v,bn w σ u->bn w τ v->u.aU=v.aU->u=v
 once:∀σ τ u v,bn w σ u->bn w τ v->u.ao=v.ao->u.call=v.call->u=v
 made:∀σ v,bn w σ v->∃q∈w.calls,q.ao=v.ao/\q.num=v.call/\q.kind=1/\ab q.keys 0=v.key/\q.val=v.val/\q.ctx=v.aQ
 done:∀q∈w.calls,q.kind=1->q.end_≠0->∃v,bn w q.ao.toNat v/\v.ao=q.ao/\v.call=q.num/\v.key=ab q.keys 0/\v.aq=q.aq
 ctx:∀q∈w.calls,mZ w q.ao.toNat q.ctx
 seen:∀k,k<2->mZ w k (ab w.seen k)
 aC:∀q∈w.calls,m9 w q
 kj:∀i,i<w.calls.length->gO (ab w.calls i)=vn w i
 fresh:∀k:Nat,k<2->(∀q∈w.calls,q.ao≠(k:Int))->ab w.seen k=[]
 words:∀m∈w.al,dX w m
def Inv.cQ {w:aj} (h:Inv w) {i:Nat} (hi:i<4):bG (sv w i):=(h.aK.site i hi).2
def Inv.site {w:aj} (h:Inv w) {i:Nat} (hi:i<4):(sv w i).site=(i:Int):=(h.aK.site i hi).1
def Inv.owner {w:aj} (h:Inv w) {i:Nat} (hi:i<4) {v:aE} (hv:bn w (i/2) v) (U:cM (sv w i) v.key=1):v∈(sv w i).ai:=by
 rcases hv.cases with hv|hv
 .exact hv
 have hb:behind (sv w (bL i)) (sv w (bL (bL i))) (vk v):=by
  rw[iv];exact PN (h.fits i hi _ (rV (iZ (h.cQ (gX hi)) (.inl hv)))) U
 have:=h.o6 _ (gX hi) v hv hb;rwa[iv] at this
def mu.dY {w:aj} (h:Inv w) {σ:Nat} {v:aE} (hc:mu w σ v):∃τ,bn w τ v:=by
 obtain⟨i,hi,e,hv|hv⟩:=hc
 .exact⟨_,i,hi,e,hv⟩
 exact⟨_,h.mb i hi v hv⟩
structure ov (w:aj) (i:Nat) (s:Server) (n:Option aE):Prop where
 aK:bG s
 site:s.site=(sv w i).site
 aw:s.aw=(sv w i).aw
 ai:∀v∈(sv w i).ai,v∈s.ai
 cont:∀v∈(sv w i).waits,v∈s.ai\/v∈s.waits
 CF:∀v∈s.ai,v∈(sv w i).ai\/(cM (sv w i) v.key=1/\(∀d∈v.aQ,∃u,u.aU=d/\bn w (i/2) u)/\(bn w (1-i/2) v\/n=some v))
 KX:∀v∈s.waits,v∈(sv w i).waits\/(cM (sv w i) v.key=1/\bn w (1-i/2) v)
 agc:∀v∈(sv w i).waits,cM (sv w i) v.key≠1->v∈s.waits
 aV:∀d∈s.aV,d∈(sv w i).aV\/∃u,u.aU=d/\bn w (i/2) u
 aD:∀d∈s.aD,d∈(sv w i).aD\/∃v,n=some v/\d=v.aU
 p9:∀d∈(sv w i).aD,d∈s.aD\/((ab (sv w i).aw (cL d.key).toNat).bD=1/\∀v∈(sv w i).ai,v.aU=d->mu w (1-i/2) v)
 new:∀v,n=some v->v∈s.ai/\v.aU∈s.aD/\cM (sv w i) v.key=1/\bM v.aq.site=v.ao/\v.ao=((i/2:Nat):Int)/\(∀σ u,bn w σ u->u.aU≠v.aU/\¬(u.ao=v.ao/\u.call=v.call))/\
  ∃q∈w.calls,q.ao=v.ao/\q.num=v.call/\q.kind=1/\ab q.keys 0=v.key/\q.val=v.val/\q.ctx=v.aQ
def ov.ext {w:aj} (h:Inv w) {i:Nat} (hi:i<4) {s:Server} {n:Option aE} (g:ov w i s n):Ext w (eh w i s) where
 dY:=λ{σ v} ⟨j,hj,e,hv⟩=>⟨j,hj,e,by
  rw[vX h.aK hi];split
  .rename_i ej;subst ej;exact g.ai v hv
  exact hv⟩
 cont:=λ{σ v} ⟨j,hj,e,hv⟩=>⟨j,hj,e,by
  rw[vX h.aK hi];split
  .rename_i ej;subst ej;rcases hv with hv|hv
   .exact .inl (g.ai v hv)
   exact g.cont v hv
  exact hv⟩
 ep:=λj hj k hk=>by
  unfold Go.Proofs.YtdanidpleofjgaaGreat.ep;rw[vX h.aK hi];split
  .rename_i ej;subst ej;rw[g.aw];exact Int.le_refl _
  exact Int.le_refl _
 calls:=λq hq=>⟨q,hq,jR.refl q⟩
def ov.back {w:aj} (h:Inv w) {i:Nat} (hi:i<4) {s:Server} {n:Option aE} (g:ov w i s n) {σ:Nat} {v:aE} (hv:bn (eh w i s) σ v):(∃τ,bn w τ v)\/n=some v:=by
 obtain⟨j,hj,e,hv⟩:=hv;rw[vX h.aK hi] at hv;split at hv
 .rename_i ej;subst ej;rcases g.CF v hv with h1|⟨_,_,h1|h1⟩
  .exact .inl ⟨_,bn.here hj h1⟩
  .exact .inl ⟨_,h1⟩
  exact .inr h1
 exact .inl ⟨_,j,hj,e,hv⟩
def ov.inv {w:aj} (h:Inv w) {i:Nat} (hi:i<4) {s:Server} {n:Option aE} (g:ov w i s n):Inv (eh w i s):=by
 have hx:=g.ext h hi;have jK:∀j,(sv (eh w i s) j).aw=(sv w j).aw:=λj=>by
  rw[vX h.aK hi];split
  .rename_i e;subst e;exact g.aw
  rfl
 have hb:∀j k,behind (sv (eh w i s) j) (sv (eh w i s) (bL j)) k↔behind (sv w j) (sv w (bL j)) k:=λj k=>ZW (jK j) (jK (bL j));have eG:∀{v:aE},dL v=true->cM (sv w i) v.key=1->¬behind (sv w i) (sv w (bL i)) (vk v):=λhv be=>PM (h.fits i hi _ (rV hv)) be;have we:bL i≠i:=Ek i;have jO:=gX hi;have aX:∀j,j≠i->sv (eh w i s) j=sv w j:=λj hj=>zW h.aK hi s hj;have fw:sv (eh w i s) i=s:=ot h.aK hi s;have hVs:∀{v},v∈(sv w i).ai->v∈(sv (eh w i s) i).ai:=λhv=>by rw[fw];exact g.ai _ hv
 have hCs:∀{v},v∈(sv w i).ai\/v∈(sv w i).waits->v∈(sv (eh w i s) i).ai\/v∈(sv (eh w i s) i).waits:=λhv=>by
  rw[fw];rcases hv with hv|hv
  .exact .inl (g.ai _ hv)
  exact g.cont _ hv
 have agf:∀j v,j<4->v∈(sv w j).ai->v∈(sv (eh w i s) j).ai:=λj v hj hv=>by
  by_cases e:j=i
  .subst e;exact hVs hv
  rw[aX j e];exact hv
 have agh:∀j v,j<4->(v∈(sv w j).ai\/v∈(sv w j).waits)->(v∈(sv (eh w i s) j).ai\/v∈(sv (eh w i s) j).waits):=λj v hj hv=>by
  by_cases e:j=i
  .subst e;exact hCs hv
  rw[aX j e];exact hv
 have agi:∀v,n=some v->bn (eh w i s) v.ao.toNat v:=λv e=>by
  have:=g.new v e;refine⟨i,hi,by omega,?_⟩;rw[fw];exact this.1
 refine⟨S2 h.aK hi g.aK g.site,?_,?_,?_,?_,?_,?_,?_,?_,?_,?_,?_,?_,?_,?_,?_,?_,h.kj,h.fresh,?_⟩
 .intro j hj k hk;rw[jK,jK];exact h.fits j hj k hk
 .intro j hj v hv o7;rw[hb] at o7;apply agf _ _ (gX hj);by_cases e:j=i
  .subst e;rw[fw] at hv;rcases g.CF v hv with h1|⟨h1,_⟩
   .exact h.o6 j hj v h1 o7
   exact absurd o7 (eG (fi g.aK.ai v hv) h1)
  rw[aX j e] at hv;exact h.o6 j hj v hv o7
 .intro j hj v hv o7;rw[hb] at o7;apply agh _ _ (gX hj);by_cases e:j=i
  .subst e;rw[fw] at hv;rcases g.KX v hv with h1|⟨h1,_⟩
   .exact h.rW j hj v h1 o7
   exact absurd o7 (eG (fi g.aK.waits v hv) h1)
  rw[aX j e] at hv;exact h.rW j hj v hv o7
 .intro j hj v hv d hd;have key:v∈(sv w j).ai->∃u,u.aU=d/\bn (eh w i s) (j/2) u:=λhv=>let⟨u,e1,e2⟩:=h.CE j hj v hv d hd;⟨u,e1,hx.dY e2⟩;by_cases e:j=i
  .subst e;rw[fw] at hv;rcases g.CF v hv with h1|⟨_,h1,_⟩
   .exact key h1
   obtain⟨u,e1,e2⟩:=h1 d hd;exact⟨u,e1,hx.dY e2⟩
  rw[aX j e] at hv;exact key hv
 .intro j hj v hv;by_cases e:j=i
  .subst e;rw[fw] at hv;rcases g.KX v hv with h1|⟨_,h1⟩
   .exact hx.dY (h.mb j hj v h1)
   exact hx.dY h1
  rw[aX j e] at hv;exact hx.dY (h.mb j hj v hv)
 .intro j hj d hd;by_cases e:j=i
  .subst e;rw[fw] at hd;rcases g.aV d hd with h1|⟨u,e1,e2⟩
   .obtain⟨u,e1,e2⟩:=h.aV j hj d h1;exact⟨u,e1,hx.dY e2⟩
   exact⟨u,e1,hx.dY e2⟩
  rw[aX j e] at hd;obtain⟨u,e1,e2⟩:=h.aV j hj d hd;exact⟨u,e1,hx.dY e2⟩
 .intro j hj d hd;by_cases e:j=i
  .subst e;rw[fw] at hd;rcases g.aD d hd with h1|⟨v,e1,rfl⟩
   .exact h.aD j hj d h1
   obtain⟨_,_,_,a1,a2,_⟩:=g.new v e1;show bM v.aq.site=_;rw[a1,a2]
  rw[aX j e] at hd;exact h.aD j hj d hd
 .intro j hj v hv fy o7;rw[hb] at o7;by_cases e:j=i
  .subst e;rw[fw] at hv⊢;rcases g.CF v hv with h1|⟨_,_,h1|h1⟩
   .rcases h.p8 j hj v h1 fy o7 with h2|h2
    .rcases g.p9 _ h2 with h3|⟨_,h3⟩
     .exact .inl h3
     exact .inr (hx.cont (h3 v h1 rfl))
    exact .inr (hx.cont h2)
   .exact .inr (hx.dY h1).cont
   exact .inl (g.new v h1).2.1
  rw[aX j e] at hv⊢;rcases h.p8 j hj v hv fy o7 with h2|h2
  .exact .inl h2
  exact .inr (hx.cont h2)
 .intro σ v hv;rcases g.back h hi hv with⟨τ,h1⟩|h1
  .have:=h.home τ v h1;exact⟨this.1,hx.dY this.2⟩
  exact⟨(g.new v h1).2.2.2.1,agi v h1⟩
 .intro σ τ u v hu hv hd;rcases g.back h hi hu with⟨_,h1⟩|h1<;>rcases g.back h hi hv with⟨_,h2⟩|h2
  .exact h.uniq _ _ u v h1 h2 hd
  .exact absurd hd ((g.new v h2).2.2.2.2.2.1 _ u h1).1
  .exact absurd hd.symm ((g.new u h1).2.2.2.2.2.1 _ v h2).1
  rw[h1] at h2;exact Option.some.inj h2
 .intro σ τ u v hu hv hc hn;rcases g.back h hi hu with⟨_,h1⟩|h1<;>rcases g.back h hi hv with⟨_,h2⟩|h2
  .exact h.once _ _ u v h1 h2 hc hn
  .exact absurd ⟨hc,hn⟩ ((g.new v h2).2.2.2.2.2.1 _ u h1).2
  .exact absurd ⟨hc.symm,hn.symm⟩ ((g.new u h1).2.2.2.2.2.1 _ v h2).2
  rw[h1] at h2;exact Option.some.inj h2
 .intro σ v hv;rcases g.back h hi hv with⟨_,h1⟩|h1
  .exact h.made _ v h1
  exact(g.new v h1).2.2.2.2.2.2
 .intro q hq h1 h2;obtain⟨v,a,b⟩:=h.done q hq h1 h2;exact⟨v,hx.dY a,b⟩
 .exactλq hq=>(h.ctx q hq).ext hx
 .exactλk hk=>(h.seen k hk).ext hx
 .exactλq hq=>(h.aC q hq).ext hx
 intro m hm;refine(h.words m hm).ext hx (h.aK.words m hm) λe9 hl hf=>.inr ?_;by_cases e:m.aO.toNat=i
 .rw[e] at hf⊢;rw[fw];obtain⟨f1,f2,f3,f4⟩:=hf;have ao4:=pQ (h.aK.words m hm);have be:∀key,cL key=m.slot->cM (sv w i) key=1->False:=λkey ek hk=>by
   unfold cM at hk;rw[ek,f1] at hk;cases hk
  refine⟨by rw[g.aw];exact f1,λv=>(f2 v).trans ⟨λ⟨a,b⟩=>⟨g.ai v a,b⟩,λ⟨a,b⟩=>⟨?_,b⟩⟩,λv=>(f3 v).trans ⟨λ⟨a,b⟩=>⟨g.agc v a λhk=>be _ b hk,b⟩,λ⟨a,b⟩=>⟨?_,b⟩⟩,λd=>(f4 d).trans ⟨λ⟨a,b⟩=>⟨?_,b⟩,λ⟨a,b⟩=>⟨?_,b⟩⟩⟩
  .rcases g.CF v a with h1|⟨h1,_⟩
   .exact h1
   exact(be _ b h1).elim
  .rcases g.KX v a with h1|⟨h1,_⟩
   .exact h1
   exact(be _ b h1).elim
  .rcases g.p9 d a with h1|⟨h1,_⟩
   .exact h1
   exact(be _ b h1).elim
  rcases g.aD d a with h1|⟨v,e1,rfl⟩
  .exact h1
  exact(be _ b (g.new v e1).2.2.1).elim
 rw[aX _ e];exact hf
structure uC (w:aj) (i:Nat) (s:Server) (k:Nat):Prop where
 aK:bG s
 site:s.site=(sv w i).site
 aw:∀j,j<3->j≠k->ab s.aw j=ab (sv w i).aw j
 ai:∀v,dL v=true->vk v≠k->(v∈s.ai↔v∈(sv w i).ai)
 waits:∀v,dL v=true->vk v≠k->(v∈s.waits↔v∈(sv w i).waits)
 FR:∀d:au,(cL d.key).toNat≠k->(d∈s.aD↔d∈(sv w i).aD)
 aV:∀d∈s.aV,d∈(sv w i).aV
 fits:lr (ab s.aw k) (ab (sv w (bL i)).aw k)=true
 ep:(ab (sv w i).aw k).ba<=(ab s.aw k).ba
 back:∀v∈s.ai,vk v=k->bn w (i/2) v
 agj:∀v∈s.waits,vk v=k->bn w (1-i/2) v
 dY:∀v∈(sv w i).ai,vk v=k->v∈s.ai\/v∈(sv w (bL i)).ai
 cont:∀v∈(sv w i).waits,vk v=k->(v∈s.ai\/v∈s.waits)\/(v∈(sv w (bL i)).ai\/v∈(sv w (bL i)).waits)
 agk:behind s (sv w (bL i)) k->∀v∈s.ai,vk v=k->v∈(sv w (bL i)).ai
 agl:behind (sv w (bL i)) s k->∀v∈(sv w (bL i)).ai,vk v=k->v∈s.ai
 agm:behind s (sv w (bL i)) k->∀v∈s.waits,vk v=k->v∈(sv w (bL i)).ai\/v∈(sv w (bL i)).waits
 agn:behind (sv w (bL i)) s k->∀v∈(sv w (bL i)).waits,vk v=k->v∈s.ai\/v∈s.waits
 aD:∀d∈s.aD,(cL d.key).toNat=k->bM d.aq.site=((i/2:Nat):Int)
 ago:¬behind s (sv w (bL i)) k->∀v∈s.ai,vk v=k->bM v.aq.site=((i/2:Nat):Int)->v.aU∈s.aD\/mu w (1-i/2) v
 agp:¬behind (sv w (bL i)) s k->∀v∈(sv w (bL i)).ai,vk v=k->bM v.aq.site=((i/2:Nat):Int)->v.aU∈(sv w (bL i)).aD\/mu w (1-i/2) v
 hold:(ab (sv w i).aw k).bD=2->(ab (sv w i).aw k).ba<=(ab (sv w (bL i)).aw k).ba
def uC.ext {w:aj} (h:Inv w) {i:Nat} (hi:i<4) {s:Server} {k:Nat} (g:uC w i s k):Ext w (eh w i s) where
 dY:=λ{σ v} ⟨j,hj,e,hv⟩=>by
  by_cases ej:j=i
  .subst ej;have eS:=iZ (h.cQ hj) (.inl hv);by_cases ek:vk v=k
   .rcases g.dY v hv ek with h1|h1
    .exact⟨j,hj,e,by rw[ot h.aK hj];exact h1⟩
    exact⟨bL j,gX hj,by rw[nv];exact e,by rw[S1 h.aK hj];exact h1⟩
   exact⟨j,hj,e,by rw[ot h.aK hj];exact(g.ai v eS ek).2 hv⟩
  exact⟨j,hj,e,by rw[zW h.aK hi s ej];exact hv⟩
 cont:=λ{σ v} ⟨j,hj,e,hv⟩=>by
  by_cases ej:j=i
  .subst ej;have eS:=iZ (h.cQ hj) hv;by_cases ek:vk v=k
   .have key:(v∈s.ai\/v∈s.waits)\/(v∈(sv w (bL j)).ai\/v∈(sv w (bL j)).waits):=by
     rcases hv with hv|hv
     .rcases g.dY v hv ek with h1|h1
      .exact .inl (.inl h1)
      exact .inr (.inl h1)
     exact g.cont v hv ek
    rcases key with h1|h1
    .exact⟨j,hj,e,by rw[ot h.aK hj];exact h1⟩
    exact⟨bL j,gX hj,by rw[nv];exact e,by rw[S1 h.aK hj];exact h1⟩
   refine⟨j,hj,e,?_⟩;rw[ot h.aK hj];rcases hv with hv|hv
   .exact .inl ((g.ai v eS ek).2 hv)
   exact .inr ((g.waits v eS ek).2 hv)
  exact⟨j,hj,e,by rw[zW h.aK hi s ej];exact hv⟩
 ep:=λj hj x hx=>by
  unfold Go.Proofs.YtdanidpleofjgaaGreat.ep;rw[vX h.aK hi];split
  .rename_i ej;subst ej;by_cases e:x=k
   .subst e;exact g.ep
   rw[g.aw x hx e];exact Int.le_refl _
  exact Int.le_refl _
 calls:=λq hq=>⟨q,hq,jR.refl q⟩
def uC.agq {w:aj} (h:Inv w) {i:Nat} (hi:i<4) {s:Server} {k:Nat} (g:uC w i s k) {σ:Nat} {v:aE} (hv:bn (eh w i s) σ v):bn w σ v:=by
 obtain⟨j,hj,e,hv⟩:=hv;by_cases ej:j=i
 .subst ej;rw[ot h.aK hj] at hv;have eS:=iZ g.aK (.inl hv);by_cases ek:vk v=k
  .rw[<-e];exact g.back v hv ek
  exact⟨j,hj,e,(g.ai v eS ek).1 hv⟩
 rw[zW h.aK hi s ej] at hv;exact⟨j,hj,e,hv⟩
def FT {w:aj} (h:Inv w) {σ:Nat} {v:aE} (hv:bn w σ v) {d:au} (hd:d∈v.aQ):∃u,u.aU=d/\bn w σ u:=by
 obtain⟨i,hi,rfl,hv⟩:=hv;exact h.CE i hi v hv d hd
def uC.inv {w:aj} (h:Inv w) {i:Nat} (hi:i<4) {s:Server} {k:Nat} (hk:k<3) (g:uC w i s k):Inv (eh w i s):=by
 have hx:=g.ext h hi;have tM:=λ{σ v}=>g.agq h hi (σ:=σ) (v:=v);have we:bL i≠i:=Ek i;have jO:=gX hi;have aX:∀j,j≠i->sv (eh w i s) j=sv w j:=λj hj=>zW h.aK hi s hj;have fw:sv (eh w i s) i=s:=ot h.aK hi s;have be:sv (eh w i s) (bL i)=sv w (bL i):=aX _ we;have KY:∀x,x<3->x≠k->(behind s (sv w (bL i)) x↔behind (sv w i) (sv w (bL i)) x):=λx uD oi=>by unfold behind;rw[g.aw x uD oi]
 have KZ:∀x,x<3->x≠k->(behind (sv w (bL i)) s x↔behind (sv w (bL i)) (sv w i) x):=λx uD oi=>by unfold behind;rw[g.aw x uD oi]
 have FU:∀j,j<4->j=i\/j=bL i\/(j≠i/\bL j≠i):=λj hj=>by
  by_cases e:j=i
  .exact .inl e
  by_cases e2:bL j=i
  .exact .inr (.inl (by rw[<-e2,iv]))
  exact .inr (.inr ⟨e,e2⟩)
 refine⟨S2 h.aK hi g.aK g.site,?_,?_,?_,?_,?_,?_,?_,?_,?_,?_,?_,?_,?_,?_,?_,?_,h.kj,h.fresh,?_⟩
 .intro j hj x uD;rcases FU j hj with rfl|rfl|⟨e1,e2⟩
  .rw[fw,be];by_cases e:x=k
   .subst e;exact g.fits
   rw[g.aw x uD e];exact h.fits j hj x uD
  .rw[iv,fw,be];have TR:∀a b,lr a b=true->lr b a=true:=λa b D2=>by
    unfold lr at*;simp only[Bool.or_eq_true] at*;rcases D2 with((h1|h1)|h1)|h1
    .exact .inl (.inl (.inr h1))
    .exact .inl (.inl (.inl h1))
    .exact .inr h1
    exact .inl (.inr h1)
   by_cases e:x=k
   .subst e;exact TR _ _ g.fits
   rw[g.aw x uD e];exact TR _ _ (h.fits i hi x uD)
  rw[aX j e1,aX _ e2];exact h.fits j hj x uD
 .intro j hj v hv hb;rcases FU j hj with rfl|rfl|⟨e1,e2⟩
  .rw[fw] at hv hb;rw[be] at hb⊢;have eS:=iZ g.aK (.inl hv);by_cases e:vk v=k
   .exact g.agk (e▸hb) v hv e
   exact h.o6 j hj v ((g.ai v eS e).1 hv) ((KY _ (rV eS) e).1 hb)
  .rw[iv,fw,be] at hb;rw[be] at hv;rw[iv,fw];have eS:=iZ (h.cQ jO) (.inl hv);by_cases e:vk v=k
   .exact g.agl (e▸hb) v hv e
   have:=h.o6 _ jO v hv (by rw[iv];exact(KZ _ (rV eS) e).1 hb);rw[iv] at this;exact(g.ai v eS e).2 this
  rw[aX j e1] at hv hb;rw[aX _ e2] at hb⊢;exact h.o6 j hj v hv hb
 .intro j hj v hv hb;rcases FU j hj with rfl|rfl|⟨e1,e2⟩
  .rw[fw] at hv hb;rw[be] at hb⊢;have eS:=iZ g.aK (.inr hv);by_cases e:vk v=k
   .exact g.agm (e▸hb) v hv e
   exact h.rW j hj v ((g.waits v eS e).1 hv) ((KY _ (rV eS) e).1 hb)
  .rw[iv,fw,be] at hb;rw[be] at hv;rw[iv,fw];have eS:=iZ (h.cQ jO) (.inr hv);by_cases e:vk v=k
   .exact g.agn (e▸hb) v hv e
   have:=h.rW _ jO v hv (by rw[iv];exact(KZ _ (rV eS) e).1 hb);rw[iv] at this;rcases this with this|this
   .exact .inl ((g.ai v eS e).2 this)
   exact .inr ((g.waits v eS e).2 this)
  rw[aX j e1] at hv hb;rw[aX _ e2] at hb⊢;exact h.rW j hj v hv hb
 .intro j hj v hv d hd;obtain⟨u,e1,e2⟩:=FT h (tM (bn.here hj hv)) hd;exact⟨u,e1,hx.dY e2⟩
 .intro j hj v hv;by_cases e:j=i
  .subst e;rw[fw] at hv;have eS:=iZ g.aK (.inr hv);by_cases e:vk v=k
   .exact hx.dY (g.agj v hv e)
   exact hx.dY (h.mb j hj v ((g.waits v eS e).1 hv))
  rw[aX j e] at hv;exact hx.dY (h.mb j hj v hv)
 .intro j hj d hd;have key:∀d∈(sv w j).aV,∃u,u.aU=d/\bn (eh w i s) (j/2) u:=λd hd=>let⟨u,e1,e2⟩:=h.aV j hj d hd;⟨u,e1,hx.dY e2⟩;by_cases e:j=i
  .subst e;rw[fw] at hd;exact key d (g.aV d hd)
  rw[aX j e] at hd;exact key d hd
 .intro j hj d hd;by_cases e:j=i
  .subst e;rw[fw] at hd;by_cases e:(cL d.key).toNat=k
   .exact g.aD d hd e
   exact h.aD j hj d ((g.FR d e).1 hd)
  rw[aX j e] at hd;exact h.aD j hj d hd
 .intro j hj v hv U hb;rcases FU j hj with rfl|rfl|⟨e1,e2⟩
  .rw[fw] at hv hb⊢;rw[be] at hb;have eS:=iZ g.aK (.inl hv);by_cases e:vk v=k
   .rcases g.ago (e▸hb) v hv e U with h1|h1
    .exact .inl h1
    exact .inr (hx.cont h1)
   rcases h.p8 j hj v ((g.ai v eS e).1 hv) U (λh1=>hb ((KY _ (rV eS) e).2 h1)) with h1|h1
   .exact .inl ((g.FR v.aU e).2 h1)
   exact .inr (hx.cont h1)
  .rw[iv,fw,be] at hb;rw[be] at hv⊢;rw[nv] at U⊢;have eS:=iZ (h.cQ jO) (.inl hv);by_cases e:vk v=k
   .rcases g.agp (e▸hb) v hv e U with h1|h1
    .exact .inl h1
    exact .inr (hx.cont h1)
   rcases h.p8 _ jO v hv (by rw[nv];exact U) (λh1=>hb ((KZ _ (rV eS) e).2 (by rwa[iv] at h1))) with h1|h1
   .exact .inl h1
   rw[nv] at h1;exact .inr (hx.cont h1)
  rw[aX j e1] at hv hb⊢;rw[aX _ e2] at hb;rcases h.p8 j hj v hv U hb with h1|h1
  .exact .inl h1
  exact .inr (hx.cont h1)
 .intro σ v hv;have:=h.home σ v (tM hv);exact⟨this.1,hx.dY this.2⟩
 .exactλσ τ u v hu hv hd=>h.uniq _ _ u v (tM hu) (tM hv) hd
 .exactλσ τ u v hu hv hd=>h.once _ _ u v (tM hu) (tM hv) hd
 .exactλσ v hv=>h.made _ v (tM hv)
 .intro q hq h1 h2;obtain⟨v,a,b⟩:=h.done q hq h1 h2;exact⟨v,hx.dY a,b⟩
 .exactλq hq=>(h.ctx q hq).ext hx
 .exactλk hk=>(h.seen k hk).ext hx
 .exactλq hq=>(h.aC q hq).ext hx
 intro m hm;refine(h.words m hm).ext hx (h.aK.words m hm) λe9 hl hf=>?_;have jK:=pQ (h.aK.words m hm);by_cases e:m.aO.toNat=i
 .rw[e] at hf⊢;rw[fw];obtain⟨f1,f2,f3,f4⟩:=hf;by_cases e2:m.slot.toNat=k
  .rw[e2] at f1⊢;left;unfold Go.Proofs.YtdanidpleofjgaaGreat.ep;rw[be];have:=g.hold (by rw[f1]);rw[f1] at this;exact this
  right;have fQ:∀{key:Int},cL key=m.slot->(cL key).toNat≠k:=λek=>by rw[ek];exact e2
  refine⟨by rw[g.aw _ om e2];exact f1,λv=>?_,λv=>?_,λd=>?_⟩
  .rw[f2 v];constructor
   .rintro⟨a,b⟩;exact⟨(g.ai v (iZ (h.cQ hi) (.inl a)) (fQ b)).2 a,b⟩
   rintro⟨a,b⟩;exact⟨(g.ai v (iZ g.aK (.inl a)) (fQ b)).1 a,b⟩
  .rw[f3 v];constructor
   .rintro⟨a,b⟩;exact⟨(g.waits v (iZ (h.cQ hi) (.inr a)) (fQ b)).2 a,b⟩
   rintro⟨a,b⟩;exact⟨(g.waits v (iZ g.aK (.inr a)) (fQ b)).1 a,b⟩
  rw[f4 d];constructor
  .rintro⟨a,b⟩;exact⟨(g.FR d (fQ b)).2 a,b⟩
  rintro⟨a,b⟩;exact⟨(g.FR d (fQ b)).1 a,b⟩
 right;rw[aX _ e];exact hf
def Ext.trans {w x y:aj} (h:Ext w x) (h':Ext x y):Ext w y:=
 ⟨λhv=>h'.dY (h.dY hv),λhv=>h'.cont (h.cont hv),λi hi k hk=>Int.le_trans (h.ep i hi k hk) (h'.ep i hi k hk),λq hq=>by
  obtain⟨p,hp,s⟩:=h.calls q hq;obtain⟨r,hr,s'⟩:=h'.calls p hp;exact⟨r,hr,s.trans s'⟩⟩
def agr {w:aj} (h:Inv w) {i:Nat} (hi:i<4) {d:au} (hd:ew (sv w i) d=true):∃u,u.aU=d/\bn w (i/2) u:=by
 unfold ew at hd;rw[Bool.or_eq_true,decide_eq_true_eq,decide_eq_true_eq] at hd;rcases hd with hd|hd
 .obtain⟨x,hx,e⟩:=oW.1 hd;exact⟨x,e,bn.here hi hx⟩
 exact h.aV i hi d (oe.1 hd)
def ags {w:aj} (h:Inv w) {i:Nat} (hi:i<4) (hp:0<=dx (sv w i)):ov w i (mw (sv w i) (dx (sv w i)).toNat) none:=by
 obtain⟨hl,_,lI⟩:=vw hp;have hu:=bf hl;have be:=Z9 lI;refine⟨(h.cQ hi).xR hp,rfl,rfl,λv hv=>gL.2 (.inr hv),λv hv=>?_,λv hv=>?_,λv hv=>.inl (vF hv),λv hv U=>?_,λd hd=>.inl hd,λd hd=>.inl hd,λd hd=>.inl hd,λv e=>by cases e⟩
 .rcases KJ (dx (sv w i)).toNat hv with rfl|h1
  .exact .inl (gL.2 (.inl rfl))
  exact .inr h1
 .rcases gL.1 hv with rfl|h1
  .right;refine⟨be,λd hd=>?_,.inl (h.mb i hi _ hu)⟩;unfold ic xp at lI;rw[Bool.and_eq_true,uh (p:=λd=>ew (sv w i) d)] at lI;exact agr h hi (lI.2 d hd)
  exact .inl h1
 rcases KJ (dx (sv w i)).toNat hv with rfl|h1
 .exact absurd be U
 exact h1
def TS {i:Nat} (hi:i<4):∀(n:Nat) {w:aj},Inv w->Inv (eh w i (iR n (sv w i)))/\Ext w (eh w i (iR n (sv w i)))
 |0,w,h=>by
  have e:eh w i (iR 0 (sv w i))=w:=KI (by rw[h.aK.aA];exact hi);rw[e];exact⟨h,Ext.refl w⟩
 |n+1,w,h=>by
  unfold iR;split
  .rw[KI (by rw[h.aK.aA];exact hi)];exact⟨h,Ext.refl w⟩
  rename_i hp;have g:=ags h hi om;have h1:=g.inv h hi;obtain⟨a,b⟩:=TS hi n h1;rw[ot h.aK hi,Ir] at a b;exact⟨a,(g.ext h hi).trans b⟩
def TU {w:aj} (h:Inv w) {i:Nat} (hi:i<4):Inv (eh w i (dB (sv w i)))/\Ext w (eh w i (dB (sv w i))):=by
 obtain⟨a,b⟩:=TS hi (sv w i).waits.length h;have e:sv (eh w i (iR (sv w i).waits.length (sv w i))) i=gZ (sv w i):=ot h.aK hi _;have g:ov (eh w i (iR (sv w i).waits.length (sv w i))) i (dB (sv w i)) none:=by
  refine⟨(h.cQ hi).settle,by rw[e];rfl,by rw[e];rfl,λv hv=>by rw[e] at hv;exact hv,λv hv=>by rw[e] at hv;exact .inr hv,λv hv=>by rw[e];exact .inl hv,λv hv=>by rw[e];exact .inl hv,λv hv _=>by rw[e] at hv;exact hv,λd hd=>by rw[e];exact .inl (rD hd),λd hd=>by rw[e];exact .inl hd,λd hd=>by rw[e] at hd;exact .inl hd,λv e=>by cases e⟩
 have h1:=g.inv a hi;have h2:=g.ext a hi;rw[Ir] at h1 h2;exact⟨h1,b.trans h2⟩
def agt {w:aj} (hg:bR w) {i:Nat} (hi:i<4) {s:Server} (h:Inv (eh w i s)):Inv (eh w i (dB s))/\Ext (eh w i s) (eh w i (dB s)):=by
 have:=TU h hi;rwa[ot hg hi,Ir] at this
structure ik (w:aj) (i:Nat) (r:Server×List ax):Prop where
 inv:Inv (eh w i r.1)
 ext:Ext w (eh w i r.1)
 words:∀x∈r.2,dX (eh w i r.1) x
def ik.same {w:aj} (h:Inv w) {i:Nat} (hi:i<4) {ws:List ax} (hw:∀x∈ws,dX w x):ik w i (sv w i,ws):=by
 have e:eh w i (sv w i)=w:=KI (by rw[h.aK.aA];exact hi);exact⟨by rw[e];exact h,by rw[e];exact Ext.refl w,by rw[e];exact hw⟩
def ik.settle {w:aj} (h:Inv w) {i:Nat} (hi:i<4) {s:Server} (h1:Inv (eh w i s)) (hx:Ext w (eh w i s)) {ws:List ax} (hw:∀x∈ws,∀y,Ext (eh w i s) y->dX y x):ik w i (dB s,ws):=by
 obtain⟨a,b⟩:=agt h.aK hi h1;exact⟨a,hx.trans b,λx hxm=>hw x hxm _ b⟩
def agv {w:aj} {m:ax} (hk:m.kind=5) (h:∃v,m.ai=[v]/\bn w (m.aO/2).toNat v/\bM v.aq.site=m.aO/2):dX w m:=by
 constructor<;>intro e<;>first|exact h|(rw[hk] at e;exact absurd e aN)
def agw {w:aj} (h:Inv w) {i:Nat} (hi:i<4) {m:ax} (hm:bI m=true) (g:dX w m) (hk:m.kind=6):ik w i (iS (sv w i) m,[]):=by
 have jx:=h.site hi;have p7:bG (iS (sv w i) m):=Sm (h.cQ hi);unfold iS at p7⊢;split
 .rename_i hc;rw[if_pos hc] at p7;simp only[Bool.and_eq_true,decide_eq_true_eq,bne_iff_ne,beq_iff_eq] at hc;obtain⟨⟨⟨r1,r2⟩,r3⟩,r4⟩:=hc;obtain⟨v',e1,e2⟩:=g.k6 hk;obtain⟨n1,n2,n3,n4⟩:=vy r1;have CG:(m.aO/2).toNat=1-i/2:=by
   rw[n2,jx,EH hi] at r2;omega
  rw[CG] at e2;have D1:ab (sv w i).aD (eW (sv w i).aD ⟨m.key,m.aq⟩).toNat=⟨m.key,m.aq⟩:=aaB r3;have gr:ov w i {(sv w i) with aD:=(sv w i).aD.take (eW (sv w i).aD ⟨m.key,m.aq⟩).toNat++(sv w i).aD.drop ((eW (sv w i).aD ⟨m.key,m.aq⟩).toNat+1)} none:=by
   refine⟨p7,rfl,rfl,λu hu=>hu,λu hu=>.inr hu,λu hu=>.inl hu,λu hu=>.inl hu,λu hu _=>hu,λd hd=>.inl hd,λd hd=>.inl (vF hd),λd hd=>?_,λu e=>by cases e⟩;rcases KJ (eW (sv w i).aD ⟨m.key,m.aq⟩).toNat hd with e|hd
   .right;rw[D1] at e;subst e;refine⟨r4,λu hu e=>?_⟩;obtain⟨τ,dZ⟩:=e2.dY h;have:=h.uniq _ _ u v' (bn.here hi hu) dZ (e.trans e1.symm);rw[this];exact e2
   exact .inl hd
  exact⟨gr.inv h hi,gr.ext h hi,λx hx=>by simp at hx⟩
 exact ik.same h hi λx hx=>by simp at hx
def TV {w:aj} (h:Inv w) {σ:Nat} {v:aE} (hv:bn w σ v):mZ w σ v.aQ:=by
 obtain⟨q,hq,c1,_,_,_,_,c6⟩:=h.made σ v hv;have hc:=h.ctx q hq;rw[c6] at hc;intro d hd;obtain⟨u,h1,h2,h3⟩:=hc d hd;obtain⟨x,e,hx⟩:=FT h hv hd;have:=h.uniq _ _ x u hx h1 (e.trans h2.symm);exact⟨x,hx,e,by rw[this];exact h3⟩
def m9.of {w:aj} {q p:Call} (g:m9 w q) (h1:p.ao=q.ao) (h2:p.aC=q.aC) (h3:p.ctx=q.ctx) (h4:p.kind=q.kind) (h5:p.keys=q.keys) (h6:p.aL=q.aL):m9 w p:=
 ⟨by rw[h1,h2];exact g.dY,by rw[h2,h3];exact g.ctx,by rw[h1,h2,h4,h5,h6];exact g.full⟩
def agx {w:aj} (h:Inv w) {q:Call} {t:Int} (hq:dH q t) (g:m9 w q) (hk:q.kind≠1) {a:Answer} (ha:dT a=true) (hy:a.yes=true) (hv:bn w q.ao.toNat a.bl):m9 w (lu q a t):=by
 unfold lu;split
 .rename_i dq;have aX:q.aL≠[]:=λe=>by rw[e] at dq;simp at dq
  have hlen:=hq.full.resolve_left aX;obtain⟨C,c1,c2,c3⟩:=g.full hk hlen;obtain⟨d1,u,u1,u2,u3⟩:=c3 _ dq;have hau:u=a.bl:=h.uniq _ _ _ _ u1 hv u2;subst hau;have oh:a.bl.key=a.key:=(rm ha hy).2;have uy:=hq.vR _ dq;unfold sQ at uy;rw[Bool.and_eq_true,decide_eq_true_eq] at uy;have xX:0<=cm q a.key:=by rw[<-oh];exact uy.1
  obtain⟨i1,i2⟩:=tY xX;have be:a.bl.aq=C a.key:=by rw[<-oh];exact d1
  have kR:∀x∈q.aC.set (cm q a.key).toNat a,x.yes=true->bn w q.ao.toNat x.bl:=λx hx hxy=>by
   rcases sJ hx with rfl|⟨k,lJ,eH,rfl⟩
   .exact hv
   exact g.dY _ (bf lJ) hxy
  have hold:=g.ctx _ (bf i1);rw[i2] at hold;have hb:bV a.bl.aq (ab q.aC (cm q a.key).toNat).bl.aq=false:=by
   have ho:=uy.2;have Ko:a.bl.aU.key=a.key:=oh;rw[Ko] at ho;unfold nW at ho;rw[Bool.or_eq_true] at ho;rcases ho with ho|ho
   .rw[y7 (hq.aK _ (bf i1)) (by simpa using ho)];exact S4 (rm ha hy).1
   exact Es ho
  have jZ:∀x∈q.aC.set (cm q a.key).toNat a,bV x.bl.aq (bN q.ctx x.key)=false:=λx hx=>by
   rcases sJ hx with rfl|⟨k,lJ,eH,rfl⟩
   .exact D9 hold hb
   exact g.ctx _ (bf lJ)
  have key:∀e:Int,m9 w {q with aC:=q.aC.set (cm q a.key).toNat a,aL:=q.aL.filter λd=>decide (d≠a.bl.aU),end_:=e}:=λe=>by
   refine⟨kR,jZ,λ_ _=>⟨C,λx hx key=>?_,λx hx=>?_,λd hd=>c3 d (rD hd)⟩⟩
   .rcases sJ hx with rfl|⟨k,lJ,eH,rfl⟩
    .exact u3 key
    exact c1 _ (bf lJ) key
   rcases sJ hx with rfl|⟨k,lJ,eH,rfl⟩
   .left;rw[be];exact yX _
   rcases c2 _ (bf lJ) with hh|hh
   .exact .inl hh
   right;refine List.mem_filter.2 ⟨hh,?_⟩;rw[decide_eq_true_eq];intro e;have e2:(ab q.aC k).key=a.bl.key:=congrArg au.key e;have:k=(cm q a.key).toNat:=QR hq.sorted lJ i1 (by rw[e2,oh,i2]);exact eH this
  dsimp only;split
  .exact key _
  exact(key q.end_).of rfl rfl rfl rfl rfl rfl
 exact g
structure FV (w:aj) (q p:Call):Prop where
 same:jR q p
 aC:m9 w p
 done:p.kind=1->p.end_≠0->∃v,bn w p.ao.toNat v/\v.ao=p.ao/\v.call=p.num/\v.key=ab p.keys 0/\v.aq=p.aq
 kj:p.end_≠0->mZ w p.ao.toNat (gO p)
def Inv.frame {w x:aj} (h:Inv w) (U:x.aA=w.aA) (hc:x.calls=w.calls) (hn:x.seen=w.seen) (hg:bR x) (hr:∀m∈x.al,dX w m):Inv x:=by
 obtain⟨xt,xs,xr,xc,xn⟩:=x;dsimp only at U hc hn hr;subst U hc hn;have hx:Ext w ⟨xt,w.aA,xr,w.calls,w.seen⟩:=⟨λh=>h,λh=>h,λ_ _ _ _=>Int.le_refl _,λq hq=>⟨q,hq,jR.refl q⟩⟩;exact⟨hg,h.fits,h.o6,h.rW,h.CE,h.mb,h.aV,h.aD,h.p8,h.home,h.uniq,h.once,h.made,h.done,h.ctx,h.seen,λq hq=>(h.aC q hq).ext hx,h.kj,h.fresh,λm hm=>(hr m hm).ext hx (hg.words m hm) λ_ _ hf=>.inr hf⟩
def agA {al more:List ax} {m:ax} (h:m∈eo al more):m∈al\/m∈more:=by
 unfold eo at h;rcases List.mem_append.1 h with h|h
 .exact .inl h
 exact .inr (List.mem_of_mem_take h)
def Inv.send {w:aj} (h:Inv w) {ws:List ax} (an:∀m∈ws,bI m=true) (hw:∀m∈ws,dX w m):Inv {w with al:=eo w.al ws}:=
 h.frame rfl rfl rfl (h.aK.send an) λm hm=>by
  rcases agA hm with hm|hm
  .exact h.words m hm
  exact hw m hm
def afU {out:List aE} (v:aE) (h:VS out):VS (eY out v):=by
 unfold eY;split
 .rename_i hp;exact JB h (pP hp)
 exact h
def KT:∀{l out:List aE},VS out->VS (l.foldl eY out)
 |[],_,h=>h
 |v::r,_,h=>KT (l:=r) (afU v h)
def afV (b:Nat) (x:aj) (e:Ev) (s r q z:Value) (hg:bR x) (ht:x.time<=1000000) (hk:e.kind=4):
 dr prog 158 [AV.val (.pointer (some ⟨b,0,none⟩)),e.av] (x.full b s r q z) (λ_:Value=>True) (λu=>bif (gP x e).2 then(gP x e).1.full b s u q z else[]) (λ_=>AV.bool (gP x e).2):=by
 refine dr.intro 111 func158 rfl ntmps158 rfl aS (λW I a U=>?_);change St _ _ [Own.box b 28 [AV.int x.time,AV.val s,AV.val r,AV.val q,AV.val z],Own.row s 43 7 (x.aA.map Server.cells),Own.row r 84 15 (x.al.map ax.cells),Own.row q 53 13 (x.calls.map Call.cells),Own.row z 41 1 (x.seen.map fX)] _ _ _ at U;have mY:=hg.lens;have vU:=hg.seen;have zS:=hg.time;have kr:=hg.al;have nR:=hg.aA;have pw:(iY x e).length<=60:=(Tk hg e).al;have FE:(List.map ax.cells x.al).length<=60:=by rw[List.length_map];exact kr
 obtain⟨bS,cS,rfl⟩:=U.j3 1 rfl ko;refine aF λI a w U=>?_;refine U.dk ?_;refine iC ?_;refine .o (sh 2 gf .tt rfl) ?_;refine bJ ?_;refine .o (.cl (jq ..)) ?_;refine bJ ?_;refine .nil ?_;intro I a w U;refine bj ?_;refine U.cd (λae=>?_) λae=>?_
 .rw[List.length_map] at ae;replace ae:=nt ae;refine aB λI a w U=>?_;refine U.dw (.bool false) [] rfl (.cons (.t rfl) .nil) trivial (by rw[FC ae];rfl) (by rw[FC ae];rfl)
 rw[List.length_map] at ae;replace ae:=nf ae;have tw:=ae;simp only[aH,Bool.and_eq_true,decide_eq_true_eq] at tw;have hm:=hg.words _ (bf (l:=x.al) (k:=e.word.toNat) om);refine zt ?_;refine U.da 9 ?_;simp only[TD];refine iC ?_;refine .o (Bu 2 gf dI .tt .tt rfl (λ_=>by rw[List.length_map];omega)) ?_;refine .o (OQ 2 dI .tt rfl (λ_=>by exact gh om) rfl) ?_;refine gJ.alloc dI eI<|.nil ?_;intro I a w U;obtain⟨b5,U⟩:=U.uX (d:=5) rfl;refine U.sb 5 λU=>?_;obtain⟨I,U⟩:=U.fb 5 5;refine nn ?_;refine St.cut (σ:=Value) (run 16 29 []) ⟨λu=>[],λu=>[Own.box b 28 [AV.int x.time,AV.val (.slice (some ⟨bS,0,none⟩) (x.aA.map Server.cells).length cS),AV.val u,AV.val q,AV.val z],Own.row (.slice (some ⟨bS,0,none⟩) (x.aA.map Server.cells).length cS) 43 7 ((x.aA).map Server.cells),Own.row u 84 15 ((iY x e).map ax.cells),Own.row q 53 13 ((x.calls).map Call.cells),Own.row z 41 1 ((x.seen).map fX)],λu=>True⟩ U ?rR ?Cq;case rR=>
  refine aR λI a w U=>?_;refine cz (λah=>?_) λah=>?_
  .refine U.gw (rp 4 (([0],none)::rp 5 (([2],some (2,[42]))::rp 2 [([0],some (0,[42]))]))) aS aS rfl ?_;refine ef ?_;refine .r [0] (.lb 0) ?_;refine gF ?_;refine aY.OR 2 rfl rfl (S8 r x.al e.word om om om) (az .r (az .tt (az .tt aI))) ?_;refine cB ?_;refine aY.DF 0 rfl HX .tt rfl rfl<|.nil ?_;intro I a w U;change St _ _ [Own.box b 28 [AV.int x.time,AV.val (.slice (some ⟨bS,0,none⟩) (x.aA.map Server.cells).length cS),AV.val (a.tmps.getD 42 undef),AV.val q,AV.val z],Own.row (.slice (some ⟨bS,0,none⟩) (x.aA.map Server.cells).length cS) 43 7 ((x.aA).map Server.cells),Own.row (a.tmps.getD 42 undef) 84 15 ((x.al.take e.word.toNat++x.al.drop (e.word.toNat+1)).map ax.cells),Own.row q 53 13 ((x.calls).map Call.cells),Own.row z 41 1 ((x.seen).map fX),Own.gone] _ _ _ at U;generalize a.tmps.getD 42 undef=o5 at U;refine bj ?_;have U:=U.drop 5;first|have U:=U.pass (H':=[Own.box b 28 [AV.int x.time,AV.val (.slice (some ⟨bS,0,none⟩) (x.aA.map Server.cells).length cS),AV.val o5,AV.val q,AV.val z],Own.row (.slice (some ⟨bS,0,none⟩) (x.aA.map Server.cells).length cS) 43 7 ((x.aA).map Server.cells),Own.row o5 84 15 ((iY x e).map ax.cells),Own.row q 53 13 ((x.calls).map Call.cells),Own.row z 41 1 ((x.seen).map fX)]) (congrArg (λl:List ax=>[Own.box b 28 [AV.int x.time,AV.val (.slice (some ⟨bS,0,none⟩) (x.aA.map Server.cells).length cS),AV.val o5,AV.val q,AV.val z],Own.row (.slice (some ⟨bS,0,none⟩) (x.aA.map Server.cells).length cS) 43 7 ((x.aA).map Server.cells),Own.row o5 84 15 ((l).map ax.cells),Own.row q 53 13 ((x.calls).map Call.cells),Own.row z 41 1 ((x.seen).map fX)]) (show x.al.take e.word.toNat++x.al.drop (e.word.toNat+1)=iY x e from(if_pos (.inr ah)).symm))|have U:=U.pass (H':=[Own.box b 28 [AV.int x.time,AV.val (.slice (some ⟨bS,0,none⟩) (x.aA.map Server.cells).length cS),AV.val r,AV.val q,AV.val z],Own.row (.slice (some ⟨bS,0,none⟩) (x.aA.map Server.cells).length cS) 43 7 ((x.aA).map Server.cells),Own.row r 84 15 ((iY x e).map ax.cells),Own.row q 53 13 ((x.calls).map Call.cells),Own.row z 41 1 ((x.seen).map fX)]) (congrArg (λl:List ax=>[Own.box b 28 [AV.int x.time,AV.val (.slice (some ⟨bS,0,none⟩) (x.aA.map Server.cells).length cS),AV.val r,AV.val q,AV.val z],Own.row (.slice (some ⟨bS,0,none⟩) (x.aA.map Server.cells).length cS) 43 7 ((x.aA).map Server.cells),Own.row r 84 15 ((l).map ax.cells),Own.row q 53 13 ((x.calls).map Call.cells),Own.row z 41 1 ((x.seen).map fX)]) (show x.al=iY x e from(if_neg (by rw[hk];simpa using ah)).symm))
   exact U.me o5 gD
  refine wp_skip<|bj ?_;have U:=U.drop 5;first|have U:=U.pass (H':=[Own.box b 28 [AV.int x.time,AV.val (.slice (some ⟨bS,0,none⟩) (x.aA.map Server.cells).length cS),AV.val o5,AV.val q,AV.val z],Own.row (.slice (some ⟨bS,0,none⟩) (x.aA.map Server.cells).length cS) 43 7 ((x.aA).map Server.cells),Own.row o5 84 15 ((iY x e).map ax.cells),Own.row q 53 13 ((x.calls).map Call.cells),Own.row z 41 1 ((x.seen).map fX)]) (congrArg (λl:List ax=>[Own.box b 28 [AV.int x.time,AV.val (.slice (some ⟨bS,0,none⟩) (x.aA.map Server.cells).length cS),AV.val o5,AV.val q,AV.val z],Own.row (.slice (some ⟨bS,0,none⟩) (x.aA.map Server.cells).length cS) 43 7 ((x.aA).map Server.cells),Own.row o5 84 15 ((l).map ax.cells),Own.row q 53 13 ((x.calls).map Call.cells),Own.row z 41 1 ((x.seen).map fX)]) (show x.al.take e.word.toNat++x.al.drop (e.word.toNat+1)=iY x e from(if_pos (.inr ah)).symm))|have U:=U.pass (H':=[Own.box b 28 [AV.int x.time,AV.val (.slice (some ⟨bS,0,none⟩) (x.aA.map Server.cells).length cS),AV.val r,AV.val q,AV.val z],Own.row (.slice (some ⟨bS,0,none⟩) (x.aA.map Server.cells).length cS) 43 7 ((x.aA).map Server.cells),Own.row r 84 15 ((iY x e).map ax.cells),Own.row q 53 13 ((x.calls).map Call.cells),Own.row z 41 1 ((x.seen).map fX)]) (congrArg (λl:List ax=>[Own.box b 28 [AV.int x.time,AV.val (.slice (some ⟨bS,0,none⟩) (x.aA.map Server.cells).length cS),AV.val r,AV.val q,AV.val z],Own.row (.slice (some ⟨bS,0,none⟩) (x.aA.map Server.cells).length cS) 43 7 ((x.aA).map Server.cells),Own.row r 84 15 ((l).map ax.cells),Own.row q 53 13 ((x.calls).map Call.cells),Own.row z 41 1 ((x.seen).map fX)]) (show x.al=iY x e from(if_neg (by rw[hk];simpa using ah)).symm))
  exact U.me r gD
 rintro u I a w an U;refine aG λI a w U=>?_;refine U.o (.c1 (tQ ..)) λU=>?_;refine zt ?_;refine U.cd (λar=>?_) λar=>?_
 .have ey:=iF.1 ar;have fy:=(hg.site (ab x.al e.word.toNat).to.toNat om).2;refine wp_seq ?_;have U:=U.jc;refine U.gw (rp 3 (([0],none)::rp 2 (([1],none)::([1],none)::rp 5 [([5],some (5,[6])),([5],some (5,[6])),([],none)]))) aS aS rfl ?_;refine dD ?_;refine .r [0] (.lb 0) ?_;refine cB ?_;refine .r [1] (jj tL cv .tt .tt (λ_=>by rw[List.length_map];omega)) ?_;refine .r [1] (si 1 cv .tt rfl (λ_=>by exact gh om) rfl) ?_;refine bJ ?_;refine .o (.c2 (afr (ab x.aA (ab x.al e.word.toNat).to.toNat) (ab x.al e.word.toNat) fy hm)) ?_;refine dD ?_;refine aY.alloc 5 rfl rfl cv dN<|aY.q7 5 rfl cv rfl .tt rfl rfl ?_;refine bJ ?_;refine .nil ?_;intro I a w U;obtain⟨b6,U⟩:=U.oL (d:=6) 5 rfl rfl;obtain⟨I,U⟩:=U.fb 5 6;refine zt ?_;refine U.dt 8 ?_;simp only[TD];refine mo ?_;refine .o (jj tL cv .tt .tt (λ_=>by rw[List.length_map];omega)) ?_;refine .nil ?_;intro I a w U;refine U.lS 1 cv .tt .tt rfl (by exact gh om) rfl rfl λa w U=>?_;refine wpList_nil ?_;have e9:∀y,y=Server.cells (cK (ab x.aA (ab x.al e.word.toNat).to.toNat) (ab x.al e.word.toNat)).1->(List.map Server.cells x.aA).set (ab x.al e.word.toNat).to.toNat y=List.map Server.cells (x.aA.set (ab x.al e.word.toNat).to.toNat (cK (ab x.aA (ab x.al e.word.toNat).to.toNat) (ab x.al e.word.toNat)).1):=λy hy=>by rw[hy,List.map_set]
  rw[e9] at U;rotate_left
  .rfl
  refine aG λI a w U=>?_;refine U.dj [0,2] (FG b x.time (.slice (some ⟨bS,0,none⟩) (x.aA.map Server.cells).length cS) u q z (iY x e) (cK (ab x.aA (ab x.al e.word.toNat).to.toNat) (ab x.al e.word.toNat)).2 pw (S9 fy hm).1 (S9 fy hm).2) (az .tt (az .r aI)) rfl aN rfl λu2 I a w aoZ U=>?_;refine aB λI a w U=>?_;have hR:gP x e=({x with aA:=x.aA.set (ab x.al e.word.toNat).to.toNat (cK (ab x.aA (ab x.al e.word.toNat).to.toNat) (ab x.al e.word.toNat)).1,al:=eo (iY x e) (cK (ab x.aA (ab x.al e.word.toNat).to.toNat) (ab x.al e.word.toNat)).2},true):=by rw[vY ae,if_neg (by rw[hk];decide),if_neg (by rw[aav ar];simp)]
  refine U.dw u2 [0,1,2,3,4] rfl (.cons (.t rfl) .nil) trivial (by rw[hR];rfl) (by rw[hR];rfl)
 have ey:=aau hm ar;have afW:=ey;simp only[aH,Bool.and_eq_true,decide_eq_true_eq] at afW;refine ee λI a w U=>?_;refine U.o (DO (xs:=[AV.val (.pointer (some ⟨b,0,none⟩)),AV.int ((ab x.al e.word.toNat).to-10)]) (sE:=[AV.ptr [AV.int x.time,AV.val (.slice (some ⟨bS,0,none⟩) (x.aA.map Server.cells).length cS),AV.val u,jl x.calls,AV.val z],AV.int ((ab x.al e.word.toNat).to-10)]) (JU x.calls x.time (.slice (some ⟨bS,0,none⟩) (x.aA.map Server.cells).length cS) u z ((ab x.al e.word.toNat).to-10)) (az .tt (az .tt aI)) (λc I a w U=>by obtain⟨I,U⟩:=U.fu 3 3 0;obtain⟨I,U⟩:=U.fb 0 0;exact⟨_,_,_,U,rfl,rfl,trivial⟩)) λU=>?_;refine aR λI a w U=>?_;refine cz (λaM=>?_) λaM=>?_
 .obtain⟨h1,h2,h3⟩:=l5 (show 0<=(bY x.calls ((ab x.al e.word.toNat).to-10)) by omega);have hq:=zR (m:=(ab x.al e.word.toNat)) (hg.call h1);obtain⟨bC,cC,rfl⟩:=U.j3 3 rfl ko;refine wp_seq ?_;refine U.da 14 ?_;simp only[TD];refine gF ?_;refine .o (jj oO fI .tt .tt (λ_=>by rw[List.length_map];omega)) ?_;refine .o (si 3 fI .tt rfl (λ_=>by exact gh om) rfl) ?_;refine gF ?_;refine .o (.c3 (afq (ab x.calls (bY x.calls ((ab x.al e.word.toNat).to-10)).toNat) (ab x.al e.word.toNat) x.time (hg.call h1) ht hm))<|gJ.alloc fI j4<|.nil ?_;intro I a w U;obtain⟨l6,U⟩:=U.uX (d:=10) rfl;refine aB λI a w U=>?_;obtain⟨I,U⟩:=U.fb 5 10;refine U.dt 7 ?_;simp only[TD];refine iC ?_;refine .o (jj oO fI .tt .tt (λ_=>by rw[List.length_map];omega)) ?_;refine .nil ?_;intro I a w U;refine U.lS 3 fI .tt .tt rfl (by exact gh om) rfl rfl λa w U=>?_;refine wpList_nil ?_;have e9:∀y,y=Call.cells (cP (ab x.calls (bY x.calls ((ab x.al e.word.toNat).to-10)).toNat) (ab x.al e.word.toNat) x.time)->(List.map Call.cells x.calls).set (bY x.calls ((ab x.al e.word.toNat).to-10)).toNat y=List.map Call.cells (x.calls.set (bY x.calls ((ab x.al e.word.toNat).to-10)).toNat (cP (ab x.calls (bY x.calls ((ab x.al e.word.toNat).to-10)).toNat) (ab x.al e.word.toNat) x.time)):=λy hy=>by rw[hy,List.map_set]
  rw[e9] at U;rotate_left
  .rfl
  refine aR λI a w U=>?_;refine cz (λaP=>?_) λaP=>?_
  .obtain⟨bZ,cZ,rfl⟩:=U.j3 4 rfl ko;refine U.dt 8 ?_;simp only[TD];refine iC ?_;refine .o (.c1 (aeB (cP (ab x.calls (bY x.calls ((ab x.al e.word.toNat).to-10)).toNat) (ab x.al e.word.toNat) x.time) x.time (ta.2 hq))) ?_;refine .o (jj Br tK .tt .tt (λ_=>by rw[List.length_map];omega)) ?_;refine .nil ?_;intro I a w U;refine U.AY (j:=0) 4 tK .tt .tt (by first|exact lG rfl|exact lQ|exact lR|exact lV|assumption) rfl (by exact gh om) rfl rfl λa w U=>?_;refine wpList_nil ?_;have e8:∀y,y=fX (gO (cP (ab x.calls (bY x.calls ((ab x.al e.word.toNat).to-10)).toNat) (ab x.al e.word.toNat) x.time))->(List.map fX x.seen).set ((ab x.al e.word.toNat).to-10).toNat y=List.map fX (x.seen.set ((ab x.al e.word.toNat).to-10).toNat (gO (cP (ab x.calls (bY x.calls ((ab x.al e.word.toNat).to-10)).toNat) (ab x.al e.word.toNat) x.time))):=λy hy=>by rw[hy,List.map_set]
   rw[e8] at U;rotate_left
   .rfl
   refine aB λI a w U=>?_;have hR:gP x e=({x with al:=iY x e,calls:=x.calls.set (bY x.calls ((ab x.al e.word.toNat).to-10)).toNat (cP (ab x.calls (bY x.calls ((ab x.al e.word.toNat).to-10)).toNat) (ab x.al e.word.toNat) x.time),seen:=x.seen.set ((ab x.al e.word.toNat).to-10).toNat (gO (cP (ab x.calls (bY x.calls ((ab x.al e.word.toNat).to-10)).toNat) (ab x.al e.word.toNat) x.time))},true):=by rw[vY ae,if_neg (by rw[hk];decide),if_pos ey];unfold iL;dsimp only;rw[if_neg om,if_pos aP]
   refine U.dw u [0,1,2,3,4] rfl (.cons (.t rfl) .nil) trivial (by rw[hR];rfl) (by rw[hR];rfl)
  refine aB λI a w U=>?_;have hR:gP x e=({x with al:=iY x e,calls:=x.calls.set (bY x.calls ((ab x.al e.word.toNat).to-10)).toNat (cP (ab x.calls (bY x.calls ((ab x.al e.word.toNat).to-10)).toNat) (ab x.al e.word.toNat) x.time)},true):=by rw[vY ae,if_neg (by rw[hk];decide),if_pos ey];unfold iL;dsimp only;rw[if_neg om,if_neg om]
  refine U.dw u [0,1,2,3,4] rfl (.cons (.t rfl) .nil) trivial (by rw[hR];rfl) (by rw[hR];rfl)
 refine aB λI a w U=>?_;have hR:gP x e=({x with al:=iY x e},true):=by rw[vY ae,if_neg (by rw[hk];decide),if_pos ey];unfold iL;dsimp only;rw[if_pos om]
 refine U.dw u [0,1,2,3,4] rfl (.cons (.t rfl) .nil) trivial (by rw[hR];rfl) (by rw[hR];rfl)
def c9.start (n:Nat) (v:Value):c9 n ⟨dA,[],v⟩:=⟨.start,Int.natCast_nonneg n,Nat.zero_le _,λ_ h=>by simp at h⟩
def wb (l:List au):
 Fn prog 54 [bE l,bE l] (AV.bool true):=by
 refine Fn.go 26 func54 ntmps54 (λW I a U=>?_);have hle:=U.eC (t:=0) rfl;refine iP λI a w U=>?_;refine U.cd (λae=>?_) λae=>?_
 .exfalso;simp at ae;skip
 refine aB λI a w U=>?_;refine St.lo (σ:=Nat) (run 2 4 (run 15 11 [])) ⟨λk=>[(5,AV.int k)],λk=>[],λk=>k<=l.length⟩ (λk=>l.length-k) 0 U ?aJ ?bF;case aJ=>exact Nat.zero_le _
 rintro k I a w an U;have hk:k<=l.length:=an;refine aZ λI a w U=>?_;refine cz (λah=>?_) λah=>?_
 .refine zt ?_;refine U.dk ?_;refine pB ?_;refine .o (wH [_,_,_] [_,_,_] yN rfl rfl .tt .tt)<|.nil ?_;intro I a w U;refine bj ?_;refine U.cd (λar=>?_) λar=>?_
  .exfalso;simp at ar;skip
  refine aR λI a w U=>?_;exact U.ag (k+1) (ah)
 refine zt ?_;refine bh ?_;rfl
def FP (v:aE):
 Fn prog 33 [v.av,v.av] (AV.bool true):=by
 refine Fn.go 45 func33 ntmps33 (λW I a U=>?_);refine wW λI a w U=>?_;refine U.q .T (nj [_,_] [_,_] nU rfl rfl .ag .ag) λU=>?_;refine XI λI a w U=>?_;refine U.q .T (.cl (wb ..)) λU=>?_;refine dG ?_;exact bP bk
def wc (l:List aE):
 Fn prog 38 [cn l,cn l] (AV.bool true):=by
 refine Fn.go 27 func38 ntmps38 (λW I a U=>?_);have hle:=U.eC (t:=0) rfl;refine iP λI a w U=>?_;refine U.cd (λae=>?_) λae=>?_
 .exfalso;simp at ae;skip
 refine aB λI a w U=>?_;refine St.lo (σ:=Nat) (run 2 4 (run 16 11 [])) ⟨λk=>[(5,AV.int k)],λk=>[],λk=>k<=l.length⟩ (λk=>l.length-k) 0 U ?aJ ?bF;case aJ=>exact Nat.zero_le _
 rintro k I a w an U;have hk:k<=l.length:=an;refine aZ λI a w U=>?_;refine cz (λah=>?_) λah=>?_
 .refine zt ?_;refine U.dk ?_;refine pB ?_;refine .o (.c2 (FP (ab l k))) ?_;refine bJ ?_;refine .nil ?_;intro I a w U;refine bj ?_;refine U.cd (λar=>?_) λar=>?_
  .exfalso;simp at ar;skip
  refine aR λI a w U=>?_;exact U.ag (k+1) (ah)
 refine zt ?_;refine bh ?_;rfl
def afX (m:ax):
 Fn prog 105 [m.av,m.av] (AV.bool true):=by
 refine Fn.go 101 func105 ntmps105 (λW I a U=>?_);refine HU λI a w U=>?_;refine yH λI a w U=>?_;refine U.q .T (nj [_,_] [_,_] nU rfl rfl .ag .ag) λU=>?_;refine wW λI a w U=>?_;refine U.q .T (Nq .ag .ag yM) λU=>?_;refine XF λI a w U=>?_;refine U.q .T (.cl (wb ..)) λU=>?_;refine ee λI a w U=>?_;refine U.q .T (.cl (wc ..)) λU=>?_;refine ee λI a w U=>?_;refine U.q .T (.cl (wc ..)) λU=>?_;refine ee λI a w U=>?_;refine U.q .T (.cl (wb ..)) λU=>?_;refine dG ?_;exact bP bk
def afY (l:List ax):
 Fn prog 53 [dR l,dR l] (AV.bool true):=by
 refine Fn.go 27 func53 ntmps53 (λW I a U=>?_);have hle:=U.eC (t:=0) rfl;refine iP λI a w U=>?_;refine U.cd (λae=>?_) λae=>?_
 .exfalso;simp at ae;skip
 refine aB λI a w U=>?_;refine St.lo (σ:=Nat) (run 2 4 (run 16 11 [])) ⟨λk=>[(5,AV.int k)],λk=>[],λk=>k<=l.length⟩ (λk=>l.length-k) 0 U ?aJ ?bF;case aJ=>exact Nat.zero_le _
 rintro k I a w an U;have hk:k<=l.length:=an;refine aZ λI a w U=>?_;refine cz (λah=>?_) λah=>?_
 .refine zt ?_;refine U.dk ?_;refine pB ?_;refine .o (.c2 (afX (ab l k))) ?_;refine bJ ?_;refine .nil ?_;intro I a w U;refine bj ?_;refine U.cd (λar=>?_) λar=>?_
  .exfalso;simp at ar;skip
  refine aR λI a w U=>?_;exact U.ag (k+1) (ah)
 refine zt ?_;refine bh ?_;rfl
def afZ (s:Server) (hl:s.aw.length<=1048576):
 Fn prog 22 [s.av,s.av] (AV.bool true):=by
 refine Fn.go 77 func22 ntmps22 (λW I a U=>?_);refine wW λI a w U=>?_;refine U.q .F (Ds .ag .ag yM) λU=>?_;refine DQ λI a w U=>?_;refine U.q .F (.cl (wc ..)) λU=>?_;refine gT λI a w U=>?_;refine U.q .F (.cl (wc ..)) λU=>?_;refine gT λI a w U=>?_;refine U.q .F (.cl (wb ..)) λU=>?_;refine gT λI a w U=>?_;refine U.q .F (.cl (wb ..)) λU=>?_;refine aF λI a w U=>?_;refine U.cd (λae=>?_) λae=>?_
 .exfalso;simp at ae;skip
 refine aB λI a w U=>?_;refine St.lo (σ:=Nat) (run 2 4 (run 18 59 [])) ⟨λk=>[(5,AV.int k)],λk=>[],λk=>k<=s.aw.length⟩ (λk=>s.aw.length-k) 0 U ?aJ ?bF;case aJ=>exact Nat.zero_le _
 rintro k I a w an U;have hk:k<=s.aw.length:=an;refine cI λI a w U=>?_;refine cz (λah=>?_) λah=>?_
 .refine zt ?_;refine U.dk ?_;refine pC ?_;refine .o (wH [_,_] [_,_] OF rfl rfl .tt .tt)<|.nil ?_;intro I a w U;refine bj ?_;refine U.cd (λar=>?_) λar=>?_
  .exfalso;simp at ar;skip
  refine aR λI a w U=>?_;exact U.ag (k+1) (ah)
 refine zt ?_;refine bh ?_;rfl
def af0 (l:List Answer):
 Fn prog 64 [sw l,sw l] (AV.bool true):=by
 refine Fn.go 55 func64 ntmps64 (λW I a U=>?_);have hle:=U.eC (t:=0) rfl;refine iP λI a w U=>?_;refine U.cd (λae=>?_) λae=>?_
 .exfalso;simp at ae;skip
 refine aB λI a w U=>?_;refine St.lo (σ:=Nat) (run 2 4 (run 44 11 [])) ⟨λk=>[(5,AV.int k)],λk=>[],λk=>k<=l.length⟩ (λk=>l.length-k) 0 U ?aJ ?bF;case aJ=>exact Nat.zero_le _
 rintro k I a w an U;have hk:k<=l.length:=an;refine aZ λI a w U=>?_;refine cz (λah=>?_) λah=>?_
 .refine zt ?_;refine U.dk ?_;refine nT ?_;refine iC ?_;refine .q .F (Ds .ag .ag yM) ?_;refine DR ?_;refine .q .F (.cl (FP ..)) ?_;refine cB ?_;refine .nil ?_;intro I a w U;refine bj ?_;refine U.cd (λar=>?_) λar=>?_
  .exfalso;simp at ar;skip
  refine aR λI a w U=>?_;exact U.ag (k+1) (ah)
 refine zt ?_;refine bh ?_;rfl
def af1 (q:Call) (hl:q.keys.length<=1048576):
 Fn prog 23 [q.av,q.av] (AV.bool true):=by
 refine Fn.go 111 func23 ntmps23 (λW I a U=>?_);refine HU λI a w U=>?_;refine XE λI a w U=>?_;refine U.q .F (Ds .ag .ag yM) λU=>?_;refine ee λI a w U=>?_;refine U.q .F (wH [_,_] [_,_] nU rfl rfl .ag .ag) λU=>?_;refine DQ λI a w U=>?_;refine U.q .F (.cl (wb ..)) λU=>?_;refine gT λI a w U=>?_;refine U.q .F (.cl (wb ..)) λU=>?_;refine gT λI a w U=>?_;refine U.q .F (.cl (af0 ..)) λU=>?_;refine aF λI a w U=>?_;refine U.cd (λae=>?_) λae=>?_
 .exfalso;simp at ae;skip
 refine aB λI a w U=>?_;refine St.lo (σ:=Nat) (run 2 4 (run 18 93 [])) ⟨λk=>[(5,AV.int k)],λk=>[],λk=>k<=q.keys.length⟩ (λk=>q.keys.length-k) 0 U ?aJ ?bF;case aJ=>exact Nat.zero_le _
 rintro k I a w an U;have hk:k<=q.keys.length:=an;refine cI λI a w U=>?_;refine cz (λah=>?_) λah=>?_
 .refine aB λI a w U=>?_;refine U.cd (λar=>?_) λar=>?_
  .exfalso;simp at ar;skip
  refine aR λI a w U=>?_;exact U.ag (k+1) (ah)
 refine zt ?_;refine bh ?_;rfl
def TG {l vs:List aE} (hl:cg l=true) (hv:cg vs=true) (h:l.length+vs.length<=80):cg (iT l vs)=true:=
 uj.2 ⟨Nat.le_trans (BI vs l) h,λv dZ=>(xo dZ).elim (fi hv v) (fi hl v),KT (vZ hl)⟩
def TH:∀{ds l:List au},fZ l=true->(∀d∈ds,ka d=true)->l.length+ds.length<=80->fZ (ds.foldl dP l)=true
 |[],_,hl,_,_=>hl
 |d::r,l,hl,hd,h=>by
  simp only[List.length_cons] at h;exact TH (ds:=r) (JR hl (hd d bk) om) (λx hx=>hd x (by simp[hx])) (by have:=Jl l d;omega)
def CB {α:Type} {P:α->Nat->Prop} (inj:∀x y i,P x i->P y i->x=y):∀(n:Nat) {l:List α},l.Pairwise (λa b=>a≠b)->(∀x∈l,∃i,i<n/\P x i)->l.length<=n
 |0,l,_,h=>by
  cases l with
  |nil=>exact Nat.le_refl _
  |cons x r=>obtain⟨i,hi,_⟩:=h x bk;omega
 |n+1,l,hn,h=>by
  by_cases hx:∃x∈l,P x n
  .obtain⟨x,hx,hp⟩:=hx;obtain⟨l1,l2,rfl⟩:=List.append_of_mem hx;have TI:(l1++l2).Sublist (l1++x::l2):=List.Sublist.append (List.Sublist.refl _) (List.sublist_cons_self x l2);have aX:∀y∈l1++l2,y≠x:=λy hy=>by
    rw[List.pairwise_append] at hn;rcases List.mem_append.1 hy with hy|hy
    .exact hn.2.2 y hy x bk
    exactλe=>(List.pairwise_cons.1 hn.2.1).1 y hy e.symm
   have:=CB inj n (l:=l1++l2) (hn.sublist TI) λy hy=>by
    obtain⟨i,hi,CC⟩:=h y (TI.subset hy);refine⟨i,?_,CC⟩;rcases Nat.lt_or_ge i n with bw|sf
    .exact bw
    have:i=n:=by omega
    exact absurd (inj y x n (this▸CC) hp) (aX y hy)
   simp only[List.length_append,List.length_cons] at this⊢;omega
  have:=CB inj n hn λy hy=>by
   obtain⟨i,hi,CC⟩:=h y hy;refine⟨i,?_,CC⟩;rcases Nat.lt_or_ge i n with bw|sf
   .exact bw
   have:i=n:=by omega
   exact absurd ⟨y,hy,this▸CC⟩ hx
  omega
def ct (w:aj) (e:Ev):aj:=if(bX w e).2=true then(bX w e).1 else w
def nK (w:aj) (e:Ev):(ct w e).time<=w.time+1:=by
 unfold ct;split
 .rw[xZ];exact Int.le_refl _
 omega
def CD {s t:Server} (h1:t.ai=s.ai) (h2:∀d∈t.aV,d∈s.aV) {d:au} (h:ew t d=true):ew s d=true:=by
 unfold ew at*;rw[Bool.or_eq_true,decide_eq_true_eq,decide_eq_true_eq,oe] at*;rw[h1] at h;exact h.imp id (h2 d)
def FQ {f:aj->Nat->aj} {n:Int} (hn:0<=n) (hf:∀x i,bR x->x.time<=96000->bR (f x i)/\(f x i).time<=x.time+n):∀(l:List Nat) {x:aj},bR x->x.time+n*(l.length:Nat)<=96000->bR (l.foldl f x)/\(l.foldl f x).time<=x.time+n*(l.length:Nat)
 |[],x,h,_=>⟨h,by simp⟩
 |i::r,x,h,ht=>by
  have h3:n*((r.length+1:Nat):Int)=n*(r.length:Nat)+n:=by rw[Int.natCast_add,Int.mul_add];simp
  have h4:0<=n*(r.length:Nat):=Int.mul_nonneg hn om;rw[List.length_cons] at ht⊢;have h1:=hf x i h om;have h2:=FQ hn hf r h1.1 om;rw[List.foldl_cons];exact⟨h2.1,by omega⟩
def af2 (s:Server) (d:au):(jt s d).length<=2:=by unfold jt;split<;>simp
def af3 (s:Server) (m:ax):∀y∈(cK s m).2,y.kind=m.kind+1:=by
 have one:∀{x:ax},x.kind=m.kind+1->∀y∈[x],y.kind=m.kind+1:=λh y hy=>by
  obtain rfl:=List.mem_singleton.1 hy;exact h
 have none:∀y∈([]:List ax),y.kind=m.kind+1:=λy hy=>by simp at hy
 unfold cK;split
 .unfold cJ;split
  .rename_i hk;unfold fT;split
   .split
    .exact one (by rw[hk];rfl)
    split
    .exact one (by rw[hk];rfl)
    exact none
   exact none
  split
  .rename_i hk;show∀y∈gN s m,_;unfold gN;split
   .split
    .exact one (by rw[hk];rfl)
    split
    .exact one (by rw[hk];rfl)
    exact none
   exact none
  split
  .rename_i hk;unfold fL;split
   .dsimp only;split
    .split
     .exact one (by rw[hk];rfl)
     exact none
    exact one (by rw[hk];rfl)
   exact none
  split
  .exact none
  split
  .rename_i hk;show∀y∈kK s m,_;unfold kK;split
   .exact one (by rw[hk];rfl)
   exact none
  split
  .exact none
  split
  .rename_i hk;unfold fj;split
   .split
    .exact one (by rw[hk];rfl)
    split
    .exact one (by rw[hk];rfl)
    exact none
   exact none
  split
  .exact none
  exact none
 exact none
def TJ:∀(n:Nat) (s:Server) {v:aE},v∈s.ai->v∈(iR n s).ai
 |0,_,_,h=>h
 |n+1,s,v,h=>by
  unfold iR;split
  .exact h
  exact TJ n _ (gL.2 (.inr h))
def TK {s:Server} {v:aE} (h:v∈s.ai):v∈(dB s).ai:=TJ _ s h
def TL {x:aj} {m:ax} {n:Nat} (KU:bY x.calls (m.to-10)=(n:Int)):(iL x m).calls=x.calls.set n (cP (ab x.calls n) m x.time):=by
 unfold iL;dsimp only;rw[KU,if_neg om,Int.toNat_natCast];split<;>rfl
def afu (l:List (List au)) (p:(List au)->Bool) (fv:AV) (hf:∀x:List au,x∈l->kV prog fv [bE x] (AV.bool (p x))):
 Fn prog 117 [kY l,fv] (AV.int (df p l)):=by
 refine Fn.go 19 func117 ntmps117 (λW I a U=>?_);have hle:=U.eC (t:=0) rfl;refine aZ λI a w U=>?_;refine St.lo (σ:=Nat) (run 2 4 (run 11 8 [])) ⟨λk=>[(8,AV.int k)],λk=>[],λk=>k<=l.length/\∀i,i<k->p (ab l i)=false⟩ (λk=>l.length-k) 0 U ?aJ ?bF;case aJ=>exact⟨Nat.zero_le _,λi hi=>by omega⟩
 rintro k I a w an U;obtain⟨hk,aT⟩:=an;refine aB λI a w U=>?_;refine cz (λae=>?_) λae=>?_
 .refine gT λI a w U=>?_;refine U.o (uT (hf _ (bf ae)) .tt (az .r aI)) λU=>?_;refine zt ?_;refine U.cd (λah=>?_) λah=>?_
  .refine dG ?_;exact fW (mQ ae aT ah).symm
  refine aF λI a w U=>?_;exact U.ag (k+1) (⟨ae,λi h1=>by rcases Nat.lt_succ_iff_lt_or_eq.1 h1 with h|h;exact aT i h;rw[h];exact ah⟩)
 refine zt ?_;refine bh ?_;exact fW (my om aT).symm
def afv (l:List (List au)) (p:(List au)->Bool) (fv:AV) (hf:∀x:List au,x∈l->kV prog fv [bE x] (AV.bool (p x))):
 Fn prog 60 [kY l,fv] (AV.bool (hasB p l)):=by
 refine Fn.go 9 func60 ntmps60 (λW I a U=>?_);refine bm λI a w U=>?_;refine U.o (.cl (afu _ _ _ hf)) λU=>?_;refine dG ?_;rfl
def afw (l:List aE) (d:au):(eE l d).isSome=decide (0<=placeOf l d):=by
 unfold eE;split<;>simp_all
def cW (w:aj) (e:Ev):aj×Bool:=if ez w then eL w e else(Zi,false)
def bz (l:List Ev):aj:=if 2000<l.length then dA else l.foldl (λw e=>(cW w e).1) dA
def afx (l:List au):
 Fn prog 61 [bE l] (AV.bool (w9 l)):=by
 refine Fn.go 6 func61 ntmps61 (λW I a U=>?_);refine aG λI a w U=>?_;refine U.o (.cl (Bz ..)) λU=>?_;refine dG ?_;rfl
def afy (s:Server) (m:ax) (hg:bG s):
 Fn prog 141 [s.av,m.av] (AV.dy [(cK s m).1.av,dR (cK s m).2]):=by
 refine Fn.go 118 func141 ntmps141 (λW I a U=>?_);have an:=jI.2 hg;have cX:=hg.ok;refine aG λI a w U=>?_;refine U.alloc rfl cv dN λb4 I a w U=>?_;refine aB λI a w U=>?_;refine U.l0 λma I a w U=>?_;obtain⟨I,U⟩:=U.fr 1 11;refine aG λI a w U=>?_;refine U.o (.c1 (vN ..)) λU=>?_;refine aB λI a w U=>?_;refine U.cd (λae=>?_) λae=>?_
 .exfalso;rw[an] at ae;cases ae;skip
 refine bK λI a w U=>?_;refine U.o (.c1 (Ci s hg.small)) λU=>U.alloc rfl cv dN λb7 I a w U=>?_;refine ee λI a w U=>?_;refine U.q .F (.cl (Jg ..)) λU=>?_;refine pz λI a w U=>?_;refine U.cd (λah=>?_) λah=>?_
 .rw[Ef] at ah;replace ah:=nt ah;refine aZ λI a w U=>?_;refine U.ret rfl (.cons (.sx 0) (.cons .x aW.nil)) ?_;exact(by unfold cK;rw[ah];rfl)
 rw[Ef] at ah;replace ah:=nf ah;have hm:=(IZ ah).2;refine aG λI a w U=>?_;refine nn ?_;refine St.cut (σ:=Server×List ax) (run 3 8 (run 77 37 [])) ⟨λ⟨u,ws⟩=>[(8,dR ws)],λ⟨u,ws⟩=>[Own.box b4 43 [AV.val (.int .i64 0),AV.val (.bool false),AV.rows 2 [],AV.rows 7 [],AV.rows 7 [],AV.rows 3 [],AV.rows 3 []],Own.gone,Own.box b7 43 u.cells],λ⟨u,ws⟩=>cJ s m=(u,ws)⟩ U ?KA ?aeL;case KA=>
  refine aZ λI a w U=>?_;refine cz (λar=>?_) λar=>?_
  .refine aG λI a w U=>?_;refine U.o (.c2 (ad7 s m hg hm)) λU=>?_;refine cI λI a w U=>?_;have U:=U.drop 3;exact U.me ((fT s m).1,(fT s m).2) (by first|exact rH ar|exact rM aM|exact rN aP|exact rI bx|exact td bt cE cX.ai|exact te bt cE cX.ai|exact rJ dF|exact rK iM|exact rL jw|exact tf ar aM aP bx bt dF iM jw)
  refine aF λI a w U=>?_;refine cz (λaM=>?_) λaM=>?_
  .refine aG λI a w U=>?_;refine U.o (.c2 (aef s m an)) λU=>?_;refine aB λI a w U=>?_;have U:=U.drop 3;exact U.me (s,gN s m) (by first|exact rH ar|exact rM aM|exact rN aP|exact rI bx|exact td bt cE cX.ai|exact te bt cE cX.ai|exact rJ dF|exact rK iM|exact rL jw|exact tf ar aM aP bx bt dF iM jw)
  refine aF λI a w U=>?_;refine cz (λaP=>?_) λaP=>?_
  .refine aG λI a w U=>?_;refine U.o (.c2 (ad6 s m hg hm)) λU=>?_;refine cI λI a w U=>?_;have U:=U.drop 3;exact U.me ((fL s m).1,(fL s m).2) (by first|exact rH ar|exact rM aM|exact rN aP|exact rI bx|exact td bt cE cX.ai|exact te bt cE cX.ai|exact rJ dF|exact rK iM|exact rL jw|exact tf ar aM aP bx bt dF iM jw)
  refine aF λI a w U=>?_;refine cz (λbx=>?_) λbx=>?_
  .refine aG λI a w U=>?_;refine U.o (.c2 (aei s m cX (iX hg.aD) hm)) λU=>?_;refine aB λI a w U=>?_;have U:=U.drop 3;exact U.me (iS s m,[]) (by first|exact rH ar|exact rM aM|exact rN aP|exact rI bx|exact td bt cE cX.ai|exact te bt cE cX.ai|exact rJ dF|exact rK iM|exact rL jw|exact tf ar aM aP bx bt dF iM jw)
  refine aF λI a w U=>?_;refine cz (λbt=>?_) λbt=>?_
  .refine ee λI a w U=>?_;refine U.o (.cl (ug ..)) λU=>?_;refine bm λI a w U=>?_;refine U.alloc rfl bQ dO λb9 I a w U=>?_;refine U.sb 3 λU=>?_;obtain⟨I,U⟩:=U.fb 3 9;refine aB λI a w U=>?_;refine U.dk ?_;refine iC ?_;refine .q .T (.cl (zs _ hg.site)) ?_;refine cB ?_;refine .nil ?_;intro I a w U;refine bj ?_;refine U.cd (λcE=>?_) λcE=>?_
   .refine mn λI a w U=>?_;refine U.o (.bd eI (.k (.k (.k (.k (.t bc.nil)))))) λU=>?_;refine U.o (.li [(mA s m).cells] ir (.u .nil)) λU=>?_;refine aB λI a w U=>?_;have U:=U.drop 3;exact U.me (s,[mA s m]) (by first|exact rH ar|exact rM aM|exact rN aP|exact rI bx|exact td bt cE cX.ai|exact te bt cE cX.ai|exact rJ dF|exact rK iM|exact rL jw|exact tf ar aM aP bx bt dF iM jw)
   refine zt ?_;have U:=U.drop 3;exact U.me (s,[]) (by first|exact rH ar|exact rM aM|exact rN aP|exact rI bx|exact td bt cE cX.ai|exact te bt cE cX.ai|exact rJ dF|exact rK iM|exact rL jw|exact tf ar aM aP bx bt dF iM jw)
  refine aF λI a w U=>?_;refine cz (λdF=>?_) λdF=>?_
  .refine aG λI a w U=>?_;refine U.o (.c2 (aeG s m cX hg.site)) λU=>?_;refine aB λI a w U=>?_;have U:=U.drop 3;exact U.me (fK s m,[]) (by first|exact rH ar|exact rM aM|exact rN aP|exact rI bx|exact td bt cE cX.ai|exact te bt cE cX.ai|exact rJ dF|exact rK iM|exact rL jw|exact tf ar aM aP bx bt dF iM jw)
  refine aF λI a w U=>?_;refine cz (λiM=>?_) λiM=>?_
  .refine aG λI a w U=>?_;refine U.o (.c2 (aeb s m hg hm)) λU=>?_;refine cI λI a w U=>?_;have U:=U.drop 3;exact U.me ((fj s m).1,(fj s m).2) (by first|exact rH ar|exact rM aM|exact rN aP|exact rI bx|exact td bt cE cX.ai|exact te bt cE cX.ai|exact rJ dF|exact rK iM|exact rL jw|exact tf ar aM aP bx bt dF iM jw)
  refine aF λI a w U=>?_;refine cz (λjw=>?_) λjw=>?_
  .refine aG λI a w U=>?_;refine U.o (.c2 (aeq s m cX hg.site (iX hg.aD) hm)) λU=>?_;refine aB λI a w U=>?_;have U:=U.drop 3;exact U.me (g8 s m,[]) (by first|exact rH ar|exact rM aM|exact rN aP|exact rI bx|exact td bt cE cX.ai|exact te bt cE cX.ai|exact rJ dF|exact rK iM|exact rL jw|exact tf ar aM aP bx bt dF iM jw)
  refine zt ?_;have U:=U.drop 3;exact U.me (s,[]) (by first|exact rH ar|exact rM aM|exact rN aP|exact rI bx|exact td bt cE cX.ai|exact te bt cE cX.ai|exact rJ dF|exact rK iM|exact rL jw|exact tf ar aM aP bx bt dF iM jw)
 rintro⟨u,ws⟩ I a w an U;have hu:bG u:=by have:=Kw hg hm (IZ ah).1;rw[an] at this;exact this
 have hw:∀y∈ws,bI y=true:=by have:=Kk hg hm;rw[an] at this;exact this
 refine bK λI a w U=>?_;refine U.o (.c1 (Ci u hu.small)) λU=>U.m λU=>?_;refine U.o (bT (JW ws (by have:=SH s m;rw[an] at this;have:ws.length<=1:=this;omega) (λy hy=>xH (hw y hy))) (az .r aI)) λU=>?_;refine aF λI a w U=>?_;refine U.ret rfl (.cons (.sx 0) (.cons .x aW.nil)) ?_;exact(by unfold cK;rw[ah,if_pos rfl,an];rfl)
def afz (site:Nat) (h4:site<4):
 Fn prog 65 [AV.int (site:Int)] ((xa site).av):=by
 refine Fn.go 30 func65 ntmps65 (λW I a U=>?_);have Bd:cr (site:Int)=true:=iF.2 om;refine sr<|U.alloc rfl cv dN λb2 I a w U=>?_;refine bK λI a w U=>?_;refine U.o (.c1 (sG ..)) λU=>?_;refine aB λI a w U=>?_;refine U.cd (λae=>?_) λae=>?_
 .exfalso;rw[Bd] at ae;cases ae;skip
 refine bK λI a w U=>?_;refine U.o (.bd DS (.k (.k bc.nil))) λU=>?_;refine U.alloc rfl cv DS λb3 I a w U=>?_;refine aB λI a w U=>?_;have U:=U.hP (sz:=2) 46;refine aB λI a w U=>?_;refine St.lo (σ:=Nat×Value) (run 2 4 (run 17 12 [])) ⟨λ⟨k,v⟩=>[(4,AV.int k)],λ⟨k,v⟩=>[Own.box b2 43 [AV.val (.int .i64 0),AV.val (.bool false),AV.rows 2 [],AV.rows 7 [],AV.rows 7 [],AV.rows 3 [],AV.rows 3 []],Own.box b3 43 [AV.int (site:Int),AV.bool true,AV.val v,AV.val (.slice none 0 0),AV.val (.slice none 0 0),AV.val (.slice none 0 0),AV.val (.slice none 0 0)],Own.row v 46 2 ((sK site k).map cY.cells)],λ⟨k,v⟩=>k<=3⟩ (λ⟨k,v⟩=>3-k) (0,.slice none 0 0) U ?aJ ?bF;case aJ=>exact Nat.zero_le _
 rintro⟨k,v⟩ I a w an U;have hk:k<=3:=an;dsimp only at U;refine aF λI a w U=>?_;refine cz (λah=>?_) λah=>?_
 .refine zt ?_;refine U.o (.bd oN bc.nil) λU=>?_;refine U.alloc rfl fo oN λb5 I a w U=>?_;refine aG λI a w U=>?_;refine U.o (sk .tt .c (λ_=>by omega)) λU=>?_;refine U.m λU=>?_;refine U.o (sk .tt .c (λ_=>by omega)) λU=>?_;refine aB λI a w U=>?_;refine cz (λar=>?_) λar=>?_
  .refine St.region ?_;refine U.o (.bd oN (.k (.k bc.nil))) λU=>?_;refine bB λI a w U=>?_;refine U.o (.li [cY.cells ⟨1,1⟩] DU (.u .nil)) λU=>?_;refine U.append 2 rfl gU fo rfl .tt .r rfl (by rw[List.length_map,D7];simp;omega) λKK a w U=>?_;refine U.o .fv λU=>?_;try have afA:=U.ff 2 rfl
   refine aZ λI a w U=>?_;have U:=U.drop 3;rw[cF,Pd (by simpa using ar)] at U;exact U.ag (k+1,KK) (by show k+1<=3;omega)
  refine bm λI a w U=>?_;refine U.o (.li [cY.cells ⟨0,0⟩] DU (.u .nil)) λU=>?_;refine U.append 2 rfl gU fo rfl .tt .r rfl (by rw[List.length_map,D7];simp;omega) λKK a w U=>?_;refine U.o .fv λU=>?_;try have afA:=U.ff 2 rfl
  refine aZ λI a w U=>?_;have U:=U.drop 3;rw[cF,Pe (by simpa using ar)] at U;exact U.ag (k+1,KK) (by show k+1<=3;omega)
 refine wp_exit<|cy<|cy<|fk<|bj<|wp_seq ?_;obtain⟨I,U⟩:=U.fu 2 2 1;have U:=U.ni (q:=3) 1 rfl rfl (fB 7 _);have U:=U.ni (q:=4) 1 rfl rfl (fB 7 _);have U:=U.ni (q:=5) 1 rfl rfl (fB 3 _);have U:=U.ni (q:=6) 1 rfl rfl (fB 3 _);refine aF λI a w U=>?_;refine U.ret rfl (.cons (.sx 0) aW.nil) ?_;have j8:k=3:=by omega
 subst j8;rfl
def afB (site:Nat) (h4:site<4):
 Fn prog 66 [AV.int (site:Int)] ((xa site).av):=by
 refine Fn.go 33 func66 ntmps66 (λW I a U=>?_);have Bd:cr (site:Int)=true:=iF.2 om;refine sr<|U.alloc rfl cv dN λb2 I a w U=>?_;refine bK λI a w U=>?_;refine U.o (.c1 (tQ ..)) λU=>?_;refine aB λI a w U=>?_;refine U.cd (λae=>?_) λae=>?_
 .exfalso;rw[Bd] at ae;cases ae;skip
 refine bK λI a w U=>?_;refine U.o (.bd DS (.k (.k bc.nil))) λU=>?_;refine U.alloc rfl cv DS λb3 I a w U=>?_;refine aB λI a w U=>?_;have U:=U.hP (sz:=2) 46;refine aB λI a w U=>?_;refine St.lo (σ:=Nat×Value) (4::(run 21 11 [])) ⟨λ⟨k,v⟩=>[(11,AV.int k)],λ⟨k,v⟩=>[Own.box b2 43 [AV.val (.int .i64 0),AV.val (.bool false),AV.rows 2 [],AV.rows 7 [],AV.rows 7 [],AV.rows 3 [],AV.rows 3 []],Own.box b3 43 [AV.int (site:Int),AV.bool true,AV.val v,AV.val (.slice none 0 0),AV.val (.slice none 0 0),AV.val (.slice none 0 0),AV.val (.slice none 0 0)],Own.row v 46 2 ((sK site k).map cY.cells)],λ⟨k,v⟩=>k<=3⟩ (λ⟨k,v⟩=>3-k) (0,.slice none 0 0) U ?aJ ?bF;case aJ=>exact Nat.zero_le _
 rintro⟨k,v⟩ I a w an U;have hk:k<=3:=an;dsimp only at U;refine aB λI a w U=>?_;refine cz (λah=>?_) λah=>?_
 .refine bm λI a w U=>?_;refine U.o (sk .tt .c (λ_=>by omega)) λU=>?_;refine U.m λU=>?_;refine U.o (sk .tt .c (λ_=>by omega)) λU=>?_;refine aB λI a w U=>?_;refine cz (λar=>?_) λar=>?_
  .refine aG λI a w U=>?_;refine U.o (.bd oN (.k (.k bc.nil))) λU=>?_;refine U.o (.li [cY.cells ⟨1,1⟩] DU (.u .nil)) λU=>?_;refine U.append 2 rfl gU fo rfl .tt .r rfl (by rw[List.length_map,D7];simp;omega) λEi a w U=>?_;refine U.o .fv λU=>?_;try have aoT:=U.ff 2 rfl
   refine aR λI a w U=>?_;rw[cF,Pd (by simpa using ar)] at U;exact U.ag (k+1,Ei) (by show k+1<=3;omega)
  refine aG λI a w U=>?_;refine U.o (.bd oN bc.nil) λU=>?_;refine U.o (.li [cY.cells ⟨0,0⟩] DU (.u .nil)) λU=>?_;refine U.append 2 rfl gU fo rfl .tt .r rfl (by rw[List.length_map,D7];simp;omega) λzF a w U=>?_;refine U.o .fv λU=>?_;try have afC:=U.ff 2 rfl
  refine aR λI a w U=>?_;rw[cF,Pe (by simpa using ar)] at U;exact U.ag (k+1,zF) (by show k+1<=3;omega)
 refine wp_exit<|cy<|cy<|fk<|bj<|wp_seq ?_;obtain⟨I,U⟩:=U.fu 2 2 1;have U:=U.ni (q:=3) 1 rfl rfl (fB 7 _);have U:=U.ni (q:=4) 1 rfl rfl (fB 7 _);have U:=U.ni (q:=5) 1 rfl rfl (fB 3 _);have U:=U.ni (q:=6) 1 rfl rfl (fB 3 _);refine aF λI a w U=>?_;refine U.ret rfl (.cons (.sx 0) aW.nil) ?_;have j8:k=3:=by omega
 subst j8;rfl
def afD:
 Fn prog 25 [] (dA.av):=by
 refine Fn.go 17 func25 ntmps25 (λW I a U=>?_);refine sr<|U.alloc rfl dM ei λb0 I a w U=>?_;refine zt ?_;refine U.make rfl Br tK XY rfl .c .c (by exact⟨by decide,by decide⟩) λb3 a w U=>?_;obtain⟨I,U⟩:=U.fr 1 3;refine U.o (.bd yK (.k bc.nil)) λU=>?_;refine U.alloc rfl dM yK λb1 I a w U=>?_;refine aB λI a w U=>?_;have U:=U.hP (sz:=7) 43;refine aB λI a w U=>?_;refine St.lo (σ:=Nat×Value) (2::(run 11 5 [])) ⟨λ⟨k,p⟩=>[(5,AV.int k)],λ⟨k,p⟩=>[Own.box b0 28 [AV.val (.int .i64 0),AV.rows 7 [],AV.rows 15 [],AV.rows 13 [],AV.rows 1 []],Own.gone,Own.box b1 28 [AV.int 0,AV.val p,AV.val (.slice none 0 0),AV.val (.slice none 0 0),kY [[],[]]],Own.row p 43 7 ((yW k).map Server.cells)],λ⟨k,p⟩=>k<=4⟩ (λ⟨k,p⟩=>4-k) (0,.slice none 0 0) U ?aJ ?bF;case aJ=>exact Nat.zero_le _
 rintro⟨k,p⟩ I a w an U;have hk:k<=4:=an;dsimp only at U;refine aB λI a w U=>?_;refine cz (λae=>?_) λae=>?_
 .refine aF λI a w U=>?_;refine U.dt 5 ?_;simp only[TD];refine dD ?_;refine .o (bT (afB k om) (az (.t rfl) aI)) ?_;refine .o (.li [(xa k).cells] DT (.u .nil)) ?_;refine .nil ?_;intro I a w U;refine U.append 3 rfl tL cv rfl .tt .r rfl (by rw[List.length_map,Io];simp;omega) λv13 a w U=>?_;refine U.o .fv λU=>?_;try have aoU:=U.ff 3 rfl
  refine aB λI a w U=>?_;rw[cF] at U;refine aF λI a w U=>?_;exact U.ag (k+1,v13) (by show k+1<=4;omega)
 refine wp_exit<|cy<|cy<|fk<|bj<|wp_seq ?_;have KL:k=4:=by omega
 subst KL;obtain⟨I,U⟩:=U.fu 3 1 2;have U:=U.ni (q:=2) 2 rfl rfl (fB 15 _);have U:=U.ni (q:=3) 2 rfl rfl (fB 13 _);refine aF λI a w U=>?_;refine U.ret rfl (.cons (.sx 0) aW.nil) ?_;rfl
def Tl (w:aj) (e:Ev):bX w e=g9 {w with time:=w.time+1} e:=rfl
def wK (l:List Ev) (k:Nat):aj:=(l.take k).foldl (λw e=>(cW w e).1) dA
def Tm {l:List Ev} {k:Nat} (h:¬2000<l.length) (hk:l.length<=k):wK l k=bz l:=by
 unfold wK bz;rw[if_neg h,List.take_of_length_le hk]
def x3 {i:Nat}:eX (i:Int)=(bL i:Int):=by unfold eX bL;split<;>split<;>omega
def Tn {v:aE} (h:dL v=true) {slot:Int} (h0:0<=slot):vk v=slot.toNat↔cL v.key=slot:=by have:=EG (iW h).1;unfold vk;omega
def To:∀{vs l:List aE},(∀u∈l,∀v∈vs,u.aU≠v.aU)->(vs.Pairwise λa b=>a.aU≠b.aU)->∀x,x∈iT l vs↔x∈l\/x∈vs
 |[],l,_,_,x=>by simp[iT]
 |v::r,l,h,hp,x=>by
  rw[List.pairwise_cons] at hp;have e:eY l v=fJ l v:=by
   unfold eY;rw[if_pos (zC λu hu=>h u hu v bk)]
  show x∈iT (eY l v) r↔_;rw[e,To (λu hu y hy=>?_) hp.2,gL,List.mem_cons]
  .constructor
   .rintro((h1|h1)|h1)<;>simp[h1]
   rintro(h1|h1|h1)<;>simp[h1]
  rcases gL.1 hu with rfl|hu
  .exact hp.1 y hy
  exact h u hu y (by simp[hy])
def Cu {s:Server} {slot:Int} {v:aE}:v∈(dW s slot).ai↔v∈s.ai/\cL v.key≠slot:=by
 show v∈s.ai.filter (λv=>!eR slot v)↔_;rw[List.mem_filter];simp[eR]
def Cv {s:Server} {slot:Int} {v:aE}:v∈(dW s slot).waits↔v∈s.waits/\cL v.key≠slot:=by
 show v∈s.waits.filter (λv=>!eR slot v)↔_;rw[List.mem_filter];simp[eR]
def KM {s:Server} {slot:Int} {d:au}:d∈(dW s slot).aD↔d∈s.aD/\cL d.key≠slot:=by
 show d∈s.aD.filter (λd=>!gG slot d)↔_;rw[List.mem_filter];simp[gG]
def FK {s:Server} {m:ax} (hm:bI m=true) {l vs:List aE} (hl:∀v∈l,cL v.key≠m.slot) (hv:∀v∈vs,cL v.key=m.slot) (hc:cg vs=true) (x:aE):x∈iT l vs↔x∈l\/x∈vs:=
 To (λu hu v dZ e=>hl u hu (by rw[show u.key=v.key from congrArg au.key e];exact hv v dZ)) (FH (vZ hc)) x
def Tp {w:aj} {m:ax} (hk:m.kind=2) (h:∃v,bn w (m.to-10).toNat v/\v.ao=m.to-10/\v.call=m.call/\v.key=m.key/\v.aq=m.aq):dX w m:=by
 constructor<;>intro e<;>first|exact h|(rw[hk] at e;exact absurd e aN)
def Tq {w:aj} {m:ax} (hk:m.kind=4) (h:∃q∈w.calls,m.to=10+q.ao/\q.num=m.call/\(m.yes=true->∃v,m.ai=[v]/\v.key=m.key/\bn w q.ao.toNat v/\(dS m.aq=true->bV v.aq (bN q.ctx m.key)=false)/\(dS m.aq=false->v.aq=m.aq))/\(m.yes=false->dS m.aq=true/\bN q.ctx m.key=gn)):dX w m:=by
 constructor<;>intro e<;>first|exact h|(rw[hk] at e;exact absurd e aN)
def Tr {w:aj} {m:ax} (hk:m.kind=6) (h:∃v:aE,v.aU=⟨m.key,m.aq⟩/\mu w (m.aO/2).toNat v):dX w m:=by
 constructor<;>intro e<;>first|exact h|(rw[hk] at e;exact absurd e aN)
def afF {w:aj} {m:ax} (hk:m.kind=7):dX w m:=by
 constructor<;>intro e<;>(rw[hk] at e;exact absurd e aN)
def afG {w:aj} {m:ax} (hk:m.kind=8) (h:∃v:aE,v.aU=⟨m.key,m.aq⟩/\bn w (m.aO/2).toNat v):dX w m:=by
 constructor<;>intro e<;>first|exact h|(rw[hk] at e;exact absurd e aN)
def afH {w:aj} {m:ax} (hk:m.kind=9) (h:m.aO.toNat<4/\(m.ba<=ep w (bL m.aO.toNat) m.slot.toNat\/xk (sv w m.aO.toNat) m)):dX w m:=by
 constructor<;>intro e<;>first|exact h|(rw[hk] at e;exact absurd e aN)
def afI {w:aj} {m:ax} (hk:m.kind=10) (h:m.aO.toNat<4/\m.ba<=ep w m.aO.toNat m.slot.toNat):dX w m:=by
 constructor<;>intro e<;>first|exact h|(rw[hk] at e;exact absurd e aN)
def Cw {w:aj} (h:bR w) {q p:Call} (hq:q∈w.calls) (hp:p∈w.calls) (hc:q.ao=p.ao) (hn:q.num=p.num):q=p:=by
 obtain⟨i,hi,rfl⟩:=gm hq;obtain⟨j,hj,rfl⟩:=gm hp;rcases Nat.lt_trichotomy i j with bw|he|bw
 .have:=S3 h bw hj hc;omega
 .rw[he]
 have:=S3 h bw hi hc.symm;omega
def Ts {w:aj} {σ:Nat} {D:List au} {v:aE} (hc:mZ w σ D) (hD:bU D=true) (hv:bn w σ v) (an:di v.aq=true) (hl:vg v.aQ D):mZ w σ (gq D v.aU):=λd hd=>by
 have hle:=afi (d:=v.aU) hD an;rcases KC hd with rfl|hd
 .exact⟨v,hv,rfl,Ea hl hle⟩
 obtain⟨u,h1,h2,h3⟩:=hc d hd;exact⟨u,h1,h2,Ea h3 hle⟩
def afJ {w:aj} {σ:Nat} {D E:List au} (hc:mZ w σ D) (he:mZ w σ E) (hD:bU D=true) (hE:bU E=true):mZ w σ (iV D E):=λd hd=>by
 rcases Tc hd with hd|hd
 .obtain⟨u,h1,h2,h3⟩:=hc d hd;exact⟨u,h1,h2,Ea h3 (afj hD hE)⟩
 obtain⟨u,h1,h2,h3⟩:=he d hd;exact⟨u,h1,h2,Ea h3 (Tb hD hE)⟩
def afK (q:Call) (m:ax) (t:Int):(cP q m t).val=q.val:=by
 have e:∀q':Call,∀t,(kD q' t).val=q'.val:=λq' t=>by unfold kD;split<;>rfl
 unfold cP ig l9 lu;dsimp only;repeat' split
 all_goals first|rfl|exact e _ _
def FL (q:Call) (m:ax) (t:Int):jR q (cP q m t):=by
 obtain⟨a1,a2,_,_,a5,a6,a7⟩:=Te q m t;exact⟨a1,a2,a7,a6,afK q m t,a5⟩
def Tt {l:List Answer} {a:Answer} (h:a∈l) (key:Int):bV (kO l key) (bN a.bl.aQ key)=false:=by
 induction l with
 |nil=>simp at h
 |cons b r ih=>
  show bV (dJ (bN b.bl.aQ key) (kO r key)) _=false
  rcases List.mem_cons.1 h with rfl|h
  .exact KF _ _
  exact D9 (ih h) (Ta _ _)
def afL {α:Type} [Inhabited α] (l:List α) (n k:Nat):ab (l.drop n) k=ab l (n+k):=by
 unfold ab;simp[List.getD_eq_getElem?_getD,List.getElem?_drop]
def Tu (l:List Call) (i:Nat) (x:Int):kG l i x=df (λy:Int=>y==x) ((l.map Call.ao).drop (i+1)):=by
 unfold kG df;rw[<-List.map_drop,List.findIdx?_map];rfl
def afM {l:List Call} {i:Nat} {p:Call} (hi:i<l.length) (hp:p.ao=(ab l i).ao) (j:Nat) (x:Int):kG (l.set i p) j x=kG l j x:=by
 rw[Tu,Tu,List.map_set];have e:p.ao=ab (l.map Call.ao) i:=by rw[hp];simp[ab,hi]
 rw[e,aaC (by simpa using hi)]
def afN {l:List Call} {i:Nat} {x:Int} (h:kG l i x<0) {j:Nat} (j9:i<j) (hj:j<l.length):(ab l j).ao≠x:=by
 unfold kG at h;have:=BB h (j-(i+1)) (by rw[List.length_drop];omega);rw[afL,show i+1+(j-(i+1))=j by omega] at this;simpa[y8] using this
def afO {l:List Call} {p:Call} {i:Nat} {x:Int} (hi:i<l.length):kG (l++[p]) i x=if 0<=kG l i x then kG l i x else if p.ao=x then((l.length-(i+1):Nat):Int) else-1:=by
 unfold kG;rw[List.drop_append_of_le_length om];unfold df;rw[List.findIdx?_append];cases h:(l.drop (i+1)).findIdx? (y8 x) with
 |some k=>simp
 |none=>
  by_cases hp:p.ao=x
  .simp[List.findIdx?_cons,y8,hp]
  simp[List.findIdx?_cons,y8,hp]
def Cx {w:aj} (h:bR w) {i j:Nat} (hw:cD (ab w.calls i)=true) (j9:i<j) (hj:j<w.calls.length):(ab w.calls j).ao≠(ab w.calls i).ao:=λe=>by
 have:=((tc.1 h.calls).2 j hj).2.2.2 i j9;obtain⟨h1,h2⟩:=nu hw;unfold mz at this;rw[e,h1,h2] at this;simp at this
def ou {w:aj} (h:bR w) {q:Call} (hq:q∈w.calls):q.ao.toNat<2/\((q.ao.toNat:Nat):Int)=q.ao:=by
 obtain⟨i,hi,rfl⟩:=gm hq;have:=pJ.1 (h.call hi).ao;omega
def afP {w:aj} {m:ax} (hk:m.kind=1) (h:∃q∈w.calls,m.aO=10+q.ao/\q.num=m.call/\m.to/2=q.ao/\q.kind=1/\ab q.keys 0=m.key/\q.val=m.val/\q.ctx=m.aQ):dX w m:=by
 constructor<;>intro e<;>first|exact h|(rw[hk] at e;exact absurd e aN)
def Tv {w:aj} {m:ax} (hk:m.kind=3) (h:∃q∈w.calls,m.aO=10+q.ao/\q.num=m.call/\m.to/2=q.ao):dX w m:=by
 constructor<;>intro e<;>first|exact h|(rw[hk] at e;exact absurd e aN)
def afQ {s:Server} {slot:Int} (h0:0<=slot) (be:(ab s.aw slot.toNat).bD=2):xk s (fS s slot):=by
 refine⟨?_,λv=>?_,λv=>?_,λd=>?_⟩
 .show ab s.aw slot.toNat=⟨(ab s.aw slot.toNat).ba,2⟩;rw[<-be]
 .show v∈s.ai.filter (eR slot)↔v∈s.ai/\cL v.key=slot;rw[List.mem_filter];simp[eR]
 .show v∈s.waits.filter (eR slot)↔v∈s.waits/\cL v.key=slot;rw[List.mem_filter];simp[eR]
 show d∈s.aD.filter (gG slot)↔d∈s.aD/\cL d.key=slot;rw[List.mem_filter];simp[gG]
def sL.ended {a b:List Call} (h:sL a b) {i:Nat} (hi:i<a.length) (he:cD (ab a i)=false):ab b i=ab a i:=by
 rcases h with rfl|⟨q,rfl⟩|⟨k,q,h1,h2,rfl⟩
 .rfl
 .exact Is hi
 rw[eO h1,if_neg];rintro rfl;rw[he] at h2;cases h2
def FM (w:aj) (m:ax):(iL w m).aA=w.aA:=by
 unfold iL;dsimp only;split
 .rfl
 split<;>rfl
def KN {l:List aE} (h:VS l):(l.map aE.aU).Pairwise λa b=>a≠b:=List.pairwise_map.2 (FH h)
def Cy {l:List au} (h:fZ l=true):l.Pairwise λa b=>a≠b:=(vE.1 h).2.2.imp λ{a b} hl e=>by
 rw[e,xB] at hl;cases hl
def FN {s:Server}:(∀v∈(dB s).ai,v∈s.ai\/v∈s.waits)/\∀v∈(dB s).waits,v∈s.waits:=by
 have:∀(n:Nat) (s:Server),(∀v∈(iR n s).ai,v∈s.ai\/v∈s.waits)/\∀v∈(iR n s).waits,v∈s.waits:=by
  intro n;induction n with
  |zero=>exactλs=>⟨λv hv=>.inl hv,λv hv=>hv⟩
  |succ n ih=>
   intro s
   unfold iR
   split
   .exact⟨λv hv=>.inl hv,λv hv=>hv⟩
   rename_i hp
   obtain⟨h1,h2⟩:=ih (mw s (dx s).toNat)
   have hl:=(vw (s:=s) om).1
   have hw:∀v∈(mw s (dx s).toNat).waits,v∈s.waits:=λv hv=>vF hv
   refine⟨λv hv=>?_,λv hv=>hw v (h2 v hv)⟩
   rcases h1 v hv with h|h
   .rcases gL.1 h with rfl|h
    .exact .inr (bf hl)
    exact .inl h
   exact .inr (hw v h)
 exact this s.waits.length s
structure FO (s:Server) (m:ax) (v:aE):Prop where
 kind:m.kind=1
 eq:v=eK s m
 ok:js (fh s m)=true
 fresh:ki s m.key (m.aO-10) m.call=none
 owns:fq s m.key=true
def Tw (s:Server) (m:ax):(cK s m).2=[]\/pW m=true/\∃x,(cK s m).2=[x]/\wt x=1:=by
 unfold cK;split
 .unfold cJ;split
  .rename_i hk;have ha:pW m=true:=by unfold pW;rw[hk];rfl
   unfold fT;split
   .split
    .exact .inr ⟨ha,_,rfl,rfl⟩
    split
    .exact .inr ⟨ha,_,rfl,rfl⟩
    exact .inl rfl
   exact .inl rfl
  split
  .rename_i hk;have ha:pW m=true:=by unfold pW;rw[hk];rfl
   show gN s m=[]\/_/\∃x,gN s m=[x]/\_;unfold gN;split
   .split
    .exact .inr ⟨ha,_,rfl,rfl⟩
    split
    .exact .inr ⟨ha,_,rfl,rfl⟩
    exact .inl rfl
   exact .inl rfl
  split
  .rename_i hk;have ha:pW m=true:=by unfold pW;rw[hk];rfl
   unfold fL;split
   .dsimp only;split
    .split
     .exact .inr ⟨ha,_,rfl,rfl⟩
     exact .inl rfl
    exact .inr ⟨ha,_,rfl,rfl⟩
   exact .inl rfl
  split
  .exact .inl rfl
  split
  .rename_i hk;have ha:pW m=true:=by unfold pW;rw[hk];rfl
   show kK s m=[]\/_/\∃x,kK s m=[x]/\_;unfold kK;split
   .exact .inr ⟨ha,_,rfl,rfl⟩
   exact .inl rfl
  split
  .exact .inl rfl
  split
  .rename_i hk;have ha:pW m=true:=by unfold pW;rw[hk];rfl
   unfold fj;split
   .split
    .exact .inr ⟨ha,_,rfl,rfl⟩
    split
    .exact .inr ⟨ha,_,rfl,rfl⟩
    exact .inl rfl
   exact .inl rfl
  split
  .exact .inl rfl
  exact .inl rfl
 exact .inl rfl
def wa (q:Call):Prop:=cD q=true->q.kind≠1->q.aC.length=q.keys.length->q.aL≠[]
def afR {q:Call} (t:Int) (ht:t≠0):wa (kD q t):=λhw _ _=>by
 unfold kD at*;split at hw
 .exact absurd (nu hw).1 ht
 rename_i hn;rw[if_neg hn];exact hn
def afS {q:Call} (h:wa q) (m:ax) {t:Int} (ht:t≠0):wa (cP q m t):=by
 unfold cP;split
 .split
  .split
   .exactλ_ hk=>absurd ‹q.kind=1› hk
   exact h
  unfold ig;split
  .split
   .split
    .unfold l9;dsimp only;split
     .exactλ_ _ hl=>absurd hl (Nat.ne_of_lt ‹_›)
     exact afR t ht
    exact h
   split
   .unfold lu;split
    .dsimp only;split
     .exactλhw _ _=>absurd (nu hw).1 ht
     exactλ_ _ _=>‹_›
    exact h
   exact h
  exact h
 exact h
structure iz (w:aj):Prop where
 KO:BG w
 Tx:∀i,i<4->xA (sv w i)
 Tz:∀q∈w.calls,wa q
 done:∀i,i<4->dx (sv w i)<0
def TA {α:Type} [Inhabited α] {p:α->Bool} {l:List α} {k:Nat} (hk:k<l.length) (hp:p (ab l k)=true):0<=df p l:=by
 unfold df;split
 .omega
 rename_i hn;rw[List.findIdx?_eq_none_iff] at hn;have:=hn _ (bf hk);rw[hp] at this;cases this
def TB {s:Server} (h:dx s<0) (hl:s.ai.length<80) {v:aE} (hv:v∈s.waits):ic s v=false:=by
 obtain⟨k,hk,rfl⟩:=gm hv;cases hg:ic s (ab s.waits k) with
 |false=>rfl
 |true=>
  unfold dx at h
  rw[if_pos hl] at h
  have:=TA (p:=ic s) hk hg
  omega
def Cz {s t:Server} (h:dx s<0) (h1:t.ai=s.ai) (h2:t.waits=s.waits) (hg:∀v∈s.waits,ic t v=true->ic s v=true):dx t<0:=by
 refine JE λhl k hk=>?_;rw[h1] at hl;rw[h2] at hk⊢;have:=TB h hl (bf hk);cases hc:ic t (ab s.waits k) with
 |false=>rfl
 |true=>rw[hg _ (bf hk) hc] at this;cases this
def TC:∀(n:Nat) (s:Server),s.waits.length<=n->dx (iR n s)<0
 |0,s,h=>JE λ_ k hk=>by
  have hk:k<s.waits.length:=hk;omega
 |n+1,s,h=>by
  unfold iR;split
  .assumption
  rename_i hp;have hl:=(vw (s:=s) om).1;exact TC n _ (by rw[Ex hl];omega)
def KP {s:Server} {v:aE}:xp s v=true↔∀d∈v.aQ,ew s d=true:=by
 unfold xp;exact uh (p:=ew s)
def CA {s t:Server} {v:aE} (h1:cM t v.key=1->cM s v.key=1) (h2:∀d∈v.aQ,ew t d=true->ew s d=true) (h:ic t v=true):ic s v=true:=by
 unfold ic at*;rw[Bool.and_eq_true,beq_iff_eq] at*;exact⟨h1 h.1,KP.2 λd hd=>h2 d hd (KP.1 h.2 d hd)⟩
def KQ {s:Server}:∀{l asked:List au},(asked.Pairwise λa b=>a≠b)->(∀d∈asked,ew s d=false)->((l.foldl (j5 s) asked).Pairwise λa b=>a≠b)/\(∀d∈l.foldl (j5 s) asked,ew s d=false)/\(∀d∈asked,d∈l.foldl (j5 s) asked)/\∀d∈l,ew s d=false->d∈l.foldl (j5 s) asked
 |[],asked,h1,h2=>⟨h1,h2,λd hd=>hd,by simp⟩
 |d::r,asked,h1,h2=>by
  rw[List.foldl_cons];by_cases hc:(ew s d||decide (0<=eW asked d))=true
  .have e:j5 s asked d=asked:=by unfold j5;rw[if_pos hc]
   rw[e];obtain⟨a,b,c,f⟩:=KQ (l:=r) h1 h2;refine⟨a,b,c,λx hx U=>?_⟩;rcases List.mem_cons.1 hx with rfl|hx
   .rw[U,Bool.false_or,decide_eq_true_eq,oe] at hc;exact c _ hc
   exact f x hx U
  have e:j5 s asked d=asked++[d]:=by unfold j5;rw[if_neg hc]
  rw[e];rw[Bool.or_eq_true,not_or,decide_eq_true_eq,oe] at hc;obtain⟨a,b,c,f⟩:=KQ (s:=s) (l:=r) (asked:=asked++[d]) (by
   rw[List.pairwise_append];exact⟨h1,by simp,λx hx y hy e'=>by rw[List.mem_singleton.1 hy] at e';exact hc.2 (e'▸hx)⟩) λx hx=>by
   rcases List.mem_append.1 hx with hx|hx
   .exact h2 x hx
   obtain rfl:=List.mem_singleton.1 hx;simpa using hc.1
  refine⟨a,b,λx hx=>c x (by simp[hx]),λx hx U=>?_⟩;rcases List.mem_cons.1 hx with rfl|hx
  .exact c _ bk
  exact f x hx U
def TE (s:Server):((uc s).Pairwise λa b=>a≠b)/\(∀d∈uc s,ew s d=false/\∃v∈s.waits,d∈v.aQ)/\∀v∈s.waits,∀d∈v.aQ,ew s d=false->d∈uc s:=by
 obtain⟨a,b,_,f⟩:=KQ (s:=s) (l:=(s.waits.map aE.aQ).flatten) (asked:=[]) bk bk;refine⟨a,λd hd=>⟨b d hd,?_⟩,λv hv d hd U=>f d (List.mem_flatten.2 ⟨v.aQ,List.mem_map.2 ⟨v,hv,rfl⟩,hd⟩) U⟩;rcases IW hd with h|h
 .simp at h
 obtain⟨l,h1,h2⟩:=List.mem_flatten.1 h;obtain⟨v,hv,rfl⟩:=List.mem_map.1 h1;exact⟨v,hv,h2⟩
def KR {s:Server} {d:au} (h:∃x∈s.ai,x.aU=d):ew s d=true:=by
 unfold ew;rw[Bool.or_eq_true,decide_eq_true_eq];exact .inl (oW.2 h)
def KS {s:Server} {d:au} (h:d∈s.aV):ew s d=true:=by
 unfold ew;rw[Bool.or_eq_true,decide_eq_true_eq,decide_eq_true_eq];exact .inr (oe.2 h)
def TF {s:Server} {d:au} (h:ew s d=true):(∃x∈s.ai,x.aU=d)\/d∈s.aV:=by
 unfold ew at h;rw[Bool.or_eq_true,decide_eq_true_eq,decide_eq_true_eq] at h;exact h.imp oW.1 oe.1
end Go.Proofs.YtdanidpleofjgaaGreat
