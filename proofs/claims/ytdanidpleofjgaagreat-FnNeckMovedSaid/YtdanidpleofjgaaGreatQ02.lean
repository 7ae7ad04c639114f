/- Part 63: contracts of functions, plain facts. -/
import Derived.Test.YtdanidpleofjgaaGreatQ01
set_option linter.all false
set_option maxRecDepth 100000
set_option maxHeartbeats 4000000
namespace Go.Proofs.YtdanidpleofjgaaGreat
open Go Go.RowKit Tryz
attribute [local irreducible] wpList Code.wp Ok
def VE (w:aj):Prop:=∀i,i<4->(sv w i).waits=[]/\(sv w i).aD=[]
def MD {s:Server} (h:s.waits=[]/\s.aD=[]):(dB s).waits=[]/\(dB s).aD=[]:=by
 refine⟨List.eq_nil_iff_forall_not_mem.2 λv hv=>?_,by rw[(ud s).2.2.2];exact h.2⟩;have:=FN.2 v hv;rw[h.1] at this;simp at this
def ala {x:aj} (h:Calm x) (hb:VE x) {j:Nat} (hj:j<4) {m:ax} (hm:bI m=true) (g:dX x m) (hk:7<=m.kind):(cJ (sv x j) m).1.waits=[]/\(cJ (sv x j) m).1.aD=[]:=by
 have U:=hb j hj;unfold cJ;rw[if_neg om,if_neg om,if_neg om,if_neg om];split
 .exact U
 split
 .show(fK (sv x j) m).waits=[]/\(fK (sv x j) m).aD=[];unfold fK;split
  .exact MD (s:={sv x j with aV:=dP (sv x j).aV ⟨m.key,m.aq⟩}) U
  exact U
 split
 .rename_i x5;unfold fj;split
  .rename_i hc;rw[Bool.and_eq_true,beq_iff_eq] at hc;obtain⟨f1,_⟩:=uF h.inv hj hc.1;split
   .exact U
   rename_i aX;split
   .obtain⟨_,k9⟩:=g.k9 x5;rw[f1,iv] at k9;obtain⟨_,_,f3,f4⟩:=k9.resolve_left aX;have ht:=hb _ (gX hj);have e1:m.waits=[]:=List.eq_nil_iff_forall_not_mem.2 λv hv=>by
     have:=((f3 v).1 hv).1;rw[ht.1] at this;simp at this
    have e2:m.aD=[]:=List.eq_nil_iff_forall_not_mem.2 λv hv=>by
     have:=((f4 v).1 hv).1;rw[ht.2] at this;simp at this
    refine MD ⟨?_,?_⟩
    .show iT ((sv x j).waits.filter _) m.waits=[];rw[U.1,e1];rfl
    show m.aD.foldl dP ((sv x j).aD.filter _)=[];rw[U.2,e2];rfl
   exact U
  exact U
 split
 .show(g8 (sv x j) m).waits=[]/\(g8 (sv x j) m).aD=[];unfold g8;split
  .refine MD ⟨?_,?_⟩
   .show(sv x j).waits.filter _=[];rw[U.1];rfl
   show(sv x j).aD.filter _=[];rw[U.2];rfl
  exact U
 exact U
structure pf (w:aj) (i k:Nat) (x:aj):Prop where
 calm:Calm x
 bare:VE x
 kinds:∀m∈x.al,7<=m.kind
 cU:qc w x
 ended:l7 x
 here:(ab (sv x i).aw k).bD≠1
 there:(ab (sv x (bL i)).aw k).bD≠2
def alb {x:aj} (h:Calm x) {i:Nat} (hi:i<4) {m:ax} (hm:bI m=true) (g:dX x m) (hk:7<=m.kind) {k:Nat} (h1:(ab (sv x i).aw k).bD≠1) (h2:(ab (sv x (bL i)).aw k).bD≠2):(ab (cJ (sv x i) m).1.aw k).bD≠1:=by
 unfold cJ;rw[if_neg om,if_neg om,if_neg om,if_neg om];split
 .exact h1
 split
 .show(ab (fK (sv x i) m).aw k).bD≠1;unfold fK;split
  .rw[lz];exact h1
  exact h1
 split
 .rename_i x5;unfold fj;split
  .rename_i hc;rw[Bool.and_eq_true,beq_iff_eq] at hc;obtain⟨f1,_⟩:=uF h.inv hi hc.1;split
   .exact h1
   rename_i aX;split
   .obtain⟨_,k9⟩:=g.k9 x5;rw[f1,iv] at k9;have hf:=(k9.resolve_left aX).1;show(ab (dB (iJ (sv x i) m)).aw k).bD≠1;rw[lz];show(ab ((sv x i).aw.set m.slot.toNat ⟨m.ba,1⟩) k).bD≠1;have h3:=BF hm;rw[eO (by rw[(h.inv.cQ hi).aw];exact h3)];split
    .rename_i e;rw[e,hf] at h2;exact absurd rfl h2
    exact h1
   exact h1
  exact h1
 split
 .show(ab (g8 (sv x i) m).aw k).bD≠1;unfold g8;split
  .rw[lz];show(ab ((sv x i).aw.set m.slot.toNat ⟨m.ba,0⟩) k).bD≠1;rcases BH (l:=(sv x i).aw) (i:=m.slot.toNat) (x:=⟨m.ba,0⟩) k with e|e
   .rw[e];exact h1
   rw[e];show(0:Int)≠1;decide
  exact h1
 exact h1
def alc {x:aj} {m:ax} {r:List ax} (hx:x.al=m::r) (he:l7 x):l7 (dQ x):=by
 rcases yf hx with e|⟨n,hn,hw,_⟩
 .intro n hn;rw[e] at hn⊢;exact he n hn
 rw[he n hn] at hw;cases hw
def pf.pop {w:aj} {i k:Nat} (hi:i<4) {x:aj} (h:pf w i k x) {m:ax} {r:List ax} (hx:x.al=m::r):pf w i k (dQ x):=by
 have dq:m∈x.al:=by rw[hx];simp
 have hm:=h.calm.inv.aK.words m dq;have g:=h.calm.inv.words m dq;have hk:=h.kinds m dq;refine⟨h.calm.pop hx,λj hj=>?_,UT h.calm.inv hx (K:=λk=>7<=k) (λk hk=>by omega) h.kinds,GH h.calm.inv (λy hy=>by have:=h.kinds y hy;omega) h.cU _,alc hx h.ended,?_,?_⟩
 .rcases yc h.calm.inv hx hj with e|⟨h1,_,e⟩
  .rw[e];exact h.bare j hj
  rw[e,o8 h.calm hj hm h1];exact ala h.calm h.bare hj hm g hk
 .rcases yc h.calm.inv hx hi with e|⟨h1,_,e⟩
  .rw[e];exact h.here
  rw[e,o8 h.calm hi hm h1];exact alb h.calm hi hm g hk h.here h.there
 rcases Ak h.calm.inv hx (gX hi) k with e|e
 .rw[e];exact h.there
 exact e
def pf.ow {w:aj} {i k:Nat} (hi:i<4) {x:aj} (h:pf w i k x) (n:Nat):pf w i k (db n x):=pb (λ_ _ _ h hx=>h.pop hi hx) n h
def pf.jL {w:aj} {i k:Nat} (hi:i<4) {x:aj} (h:pf w i k x) (hr:x.al=[]) {j:Nat} (hj:j<4):pf w i k (fM x j):=by
 refine pf.ow hi (x:=ct x (ev 8 (j:Int) 0)) ?_ 1000;have U:=wm h.calm hr hj;refine⟨Al h.calm hj hr,λa ha=>by rw[U];exact h.bare a ha,?_,GH h.calm.inv (λy hy=>by rw[hr] at hy;simp at hy) h.cU _,λn hn=>?_,by rw[U];exact h.here,by rw[U];exact h.there⟩
 .rw[uJ h.calm hr hj];show∀m∈gy (sv x j),7<=m.kind;intro m hm;unfold gy at hm;split at hm
  .rw[(h.bare j hj).2] at hm;rcases List.mem_append.1 hm with hm|hm
   .rcases List.mem_append.1 hm with hm|hm
    .obtain⟨_,_,rfl⟩:=List.mem_map.1 hm;show(7:Int)<=9;decide
    simp at hm
   obtain⟨d,_,rfl⟩:=List.mem_map.1 hm;exact Int.le_refl _
  simp at hm
 rw[uJ h.calm hr hj] at hn⊢;exact h.ended n hn
def ald {w:aj} (hq:hO w 20) {i k:Nat} (hi:i<4) (hk:k<3) {y:aj} (h:pf w i k y) (hv:∀σ v,bn w σ v->bn y σ v) (ht:y.time<=70000):
 (ab (sv (bA 2 y) (bL i)).aw k).bD=1/\(ab (sv (bA 2 y) i).aw k).bD=0/\r8 (bA 2 y)=true/\∀σ:Nat,σ<2->cN (bA 2 y) (σ:Int)=cN w (σ:Int):=by
 have hc:=h.calm;have g1:=C2 hc.inv hc.more;have b:=h.ow hi 1000;have sb:=CT hc;have t0:=b.jL hi sb.al (j:=0) aN;have s0:=mF sb (i:=0) aN;have t1:=t0.jL hi s0.al (j:=1) aN;have s1:=mF s0 (i:=1) aN;have t2:=t1.jL hi s1.al (j:=2) aN;have s2:=mF s1 (i:=2) aN;have t3:pf w i k (il (db 1000 y)):=t2.jL hi s2.al (j:=3) aN;have s3:=Mi sb;have r3:=US sb;have er:fN y=il (db 1000 y):=by
  rw[yg,Ut hc];unfold uK;rw[An s3 λn hn _=>t3.ended n hn,An s3 λn hn _=>t3.ended n hn]
 have q:hO (fN y) 20:=by
  rw[er];exact⟨s3,r3,λa ha=>(t3.bare a ha).2,λa ha v hv=>by rw[(t3.bare a ha).1] at hv;simp at hv⟩
 have he:l7 (fN y):=by rw[er];exact t3.ended
 have e2:bA 2 y=bA 1 (fN y):=by
  show(if y.time<79999 then bA 1 (fN y) else y)=_;rw[if_pos om]
 obtain⟨q2,_,n2,sd,_,sl⟩:=Vx q he 1 (by have:=g1.time;omega);rw[e2,sl i hi,sl _ (gX hi)];have hx:=s3.calm.inv;have f:=hx.fits i hi k hk;have ra:=r3 i hi k hk;have rb:=r3 _ (gX hi) k hk;have st:=CJ hx hi hk;have h1:=t3.here;rw[er];refine⟨?_,?_,by rw[<-er];exact n2,λσ hσ=>?_⟩
 .rcases IH f ra rb with h|h
  .exact absurd h.1 h1
  exact h.1
 .omega
 rw[<-er,sd σ hσ];refine MA hq q (by rw[er];exact t3.cU) (λσ v kR=>g1.dY σ v (hv σ v kR)) hσ hσ
def fU (w:aj) (b:Int):Prop:=∀i,i<4->∀k,k<3->ep w i k<=b
def ale {w:aj} (h:Inv w) {b:Int} (hb:fU w b) {i:Nat} (hi:i<4) {m:ax} (hm:bI m=true) (g:dX w m) {k:Nat} (hk:k<3):(ab (cK (sv w i) m).1.aw k).ba<=b:=by
 have h0:(ab (sv w i).aw k).ba<=b:=hb i hi k hk;have same:∀{t:Server},t.aw=(sv w i).aw->(ab t.aw k).ba<=b:=λe=>by rw[e];exact h0
 have set:∀{e s:Int} {j:Nat},e<=b->(ab ((sv w i).aw.set j ⟨e,s⟩) k).ba<=b:=λ{e s j} he=>by
  rcases BH (l:=(sv w i).aw) (i:=j) (x:=⟨e,s⟩) k with e1|e1
  .rw[e1];exact h0
  rw[e1];exact he
 have h3:=BF hm;unfold cK;split
 .unfold cJ;split
  .unfold fT;split
   .split
    .exact same rfl
    split
    .exact same (lz _)
    exact same rfl
   exact same rfl
  split
  .exact same rfl
  split
  .unfold fL;split
   .dsimp only;split
    .split
     .exact same (lz _)
     exact same rfl
    exact same (lz _)
   exact same rfl
  split
  .unfold iS;split<;>exact same rfl
  split
  .exact same rfl
  split
  .unfold fK;split
   .exact same (lz _)
   exact same rfl
  split
  .rename_i x5;unfold fj;split
   .rename_i hc;rw[Bool.and_eq_true,beq_iff_eq] at hc;obtain⟨f1,_⟩:=uF h hi hc.1;split
    .exact same rfl
    rename_i aX;split
    .obtain⟨_,k9⟩:=g.k9 x5;rw[f1,iv] at k9;have hf:=(k9.resolve_left aX).1;have:=hb _ (gX hi) _ h3;unfold ep at this;rw[hf] at this;show(ab (dB (iJ (sv w i) m)).aw k).ba<=b;rw[lz];exact set (s:=1) this
    exact same rfl
   exact same rfl
  split
  .unfold g8;split
   .rename_i hc;simp only[Bool.and_eq_true,beq_iff_eq] at hc;have:=hb i hi _ h3;unfold ep at this;show(ab (dB (kg (sv w i) m)).aw k).ba<=b;rw[lz];exact set (s:=0) (by rw[<-hc.2];exact this)
   exact same rfl
  exact same rfl
 exact same rfl
def alf {w x:aj} {b:Int} (h:fU w b) (e:x.aA=w.aA):fU x b:=λi hi k hk=>by
 have:=h i hi k hk;unfold ep sv at*;rw[e];exact this
def GK {w x:aj} (hg:bR w) {b:Int} (h:fU w b) {j:Nat} (hj:j<4) {s:Server} (U:∀k,k<3->(ab s.aw k).ba<=b) (e:x.aA=w.aA.set j s):fU x b:=λi hi k hk=>by
 unfold ep sv;rw[e,eO (by rw[hg.aA];exact hj)];split
 .exact U k hk
 exact h i hi k hk
def VF {w:aj} (h:Inv w) {b:Int} (hb:fU w b) (e:Ev):fU (bX w e).1 (b+1)/\(e.kind≠9->fU (bX w e).1 b):=by
 have key:∀{x:aj},fU x b->fU x (b+1)/\(e.kind≠9->fU x b):=λh=>⟨λi hi k hk=>by have:=h i hi k hk;omega,λ_=>h⟩;have fr:∀{x:aj},x.aA=w.aA->fU x b:=alf hb;unfold bX;dsimp only;split
 .refine key (fr ?_);unfold gz;split
  .unfold jJ;split<;>rfl
  dsimp only;split
  .rfl
  split<;>rfl
 split
 .unfold gP;split
  .rename_i hr;simp only[aH,Bool.and_eq_true,decide_eq_true_eq] at hr;have bw:e.word.toNat<w.al.length:=by have:=hr.2;have:=hr.1;show e.word.toNat<w.al.length;omega
   have dq:ab w.al e.word.toNat∈w.al:=bf bw;have hm:=h.aK.words _ dq;dsimp only;split
   .refine key (fr ?_);split<;>rfl
   split
   .refine key (fr ?_);show(iL _ _).aA=_;rw[FM];split<;>rfl
   rename_i bq;have ey:0<=(ab w.al e.word.toNat).to/\(ab w.al e.word.toNat).to<=3:=by
    have:=(kJ hm).2.2.1;simp only[kb,cr,aH,Bool.or_eq_true,Bool.and_eq_true,decide_eq_true_eq] at this bq;omega
   exact key (GK h.aK hb (j:=(ab w.al e.word.toNat).to.toNat) om (λk hk=>ale h hb om hm (h.words _ dq) hk) rfl)
  exact key (fr rfl)
 split
 .rename_i eH;rw[Bool.and_eq_true] at eH;obtain⟨hi,_,_,_⟩:=vy eH.2;have U:∀k,k<3->(ab (sv w e.at_.toNat).aw k).ba<=b:=λk hk=>hb _ hi k hk;unfold eN;dsimp only;split
  .exact key (GK h.aK hb hi (s:=jF (sv w e.at_.toNat)) U rfl)
  split
  .exact key (GK h.aK hb hi (s:=ll (sv w e.at_.toNat)) U rfl)
  split
  .exact key (fr rfl)
  split
  .rename_i h7 h6 h8 rP;refine⟨GK (w:=w) h.aK (λi hi k hk=>by have:=hb i hi k hk;omega) hi (s:=gV (sv w e.at_.toNat) e.slot) (λk hk=>?_) rfl,λh9=>?_⟩
   .obtain⟨_,m1,m2,_,_⟩:=vq rP;show(ab ((sv w e.at_.toNat).aw.set e.slot.toNat ⟨(ab (sv w e.at_.toNat).aw e.slot.toNat).ba+1,2⟩) k).ba<=b+1;have h1:=U k hk;have h2:=U e.slot.toNat om;rcases BH (l:=(sv w e.at_.toNat).aw) (i:=e.slot.toNat) (x:=⟨(ab (sv w e.at_.toNat).aw e.slot.toNat).ba+1,2⟩) k with e1|e1
    .rw[e1];omega
    rw[e1];show _+1<=b+1;omega
   exfalso;have:=eH.1;simp only[aH,Bool.and_eq_true,decide_eq_true_eq] at this;omega
  exact key (fr rfl)
 exact key (fr rfl)
def VG {w:aj} (h:Inv w) {b:Int} (hb:fU w b) {e:Ev} (he:e.kind≠9):fU (ct w e) b:=by
 unfold ct;split
 .exact(VF h hb e).2 he
 exact hb
def alg {w:aj} (h:Inv w) {b:Int} (hb:fU w b) (n:Nat):Inv (db n w)/\fU (db n w) b:=
 pb (R:=λx=>Inv x/\fU x b) (λx _ _ hx _=>⟨Me hx.1,VG hx.1 hx.2 (by show(4:Int)≠9;decide)⟩) n ⟨h,hb⟩
def alh {w:aj} (h:Inv w) {b:Int} (hb:fU w b):Inv (fN w)/\fU (fN w) b:=by
 rw[yg,Ab];have lift:∀{x:aj} {e:Ev},e.kind≠9->Inv x/\fU x b->Inv (ct x e)/\fU (ct x e) b:=λhe hx=>⟨tp hx.1 _,VG hx.1 hx.2 he⟩;have ow:∀{x:aj},Inv x/\fU x b->Inv (db 1000 x)/\fU (db 1000 x) b:=λhx=>alg hx.1 hx.2 1000;have n7:∀{i c:Int},(ev 7 i c).kind≠9:=λ{i c}=>by show(7:Int)≠9;decide
 have n8:∀{i c:Int},(ev 8 i c).kind≠9:=λ{i c}=>by show(8:Int)≠9;decide
 have n2:∀{i c:Int},(ev 2 i c).kind≠9:=λ{i c}=>by show(2:Int)≠9;decide
 have a:=ow (lift n7 (lift n7 (lift n7 (lift n7 ⟨h,hb⟩ (e:=ev 7 ((0:Nat):Int) 0)) (e:=ev 7 ((1:Nat):Int) 0)) (e:=ev 7 ((2:Nat):Int) 0)) (e:=ev 7 ((3:Nat):Int) 0));have jL:∀{x:aj} (i:Nat),Inv x/\fU x b->Inv (fM x i)/\fU (fM x i) b:=λi hx=>ow (lift n8 hx);have ask:∀{x:aj} (c:Nat),Inv x/\fU x b->Inv (gv x c)/\fU (gv x c) b:=λc hx=>ow (lift n2 hx);exact ask 1 (ask 0 (jL 3 (jL 2 (jL 1 (jL 0 a)))))
def VH:∀(n:Nat) {w:aj} {b:Int},Inv w->fU w b->fU (bA n w) b
 |0,_,_,_,hb=>hb
 |n+1,w,b,h,hb=>by
  unfold bA;split
  .obtain⟨h1,h2⟩:=alh h hb;exact VH n h1 h2
  exact hb
def VI:∀(l:List Ev) {w:aj} {b:Int},Inv w->w.time<=99999->fU w b->fU (runN w l) (b+l.length)
 |[],w,b,_,_,hb=>λi hi k hk=>by have:=hb i hi k hk;show ep w i k<=_;simp;omega
 |e::l,w,b,h,ht,hb=>by
  have e1:=Gu (iy.2 ⟨h.aK,ht⟩) e;have h1:fU (eL w e).1 (b+1):=by
   unfold eL;split
   .exact(VF h hb e).1
   exactλi hi k hk=>by have:=hb i hi k hk;show ep w i k<=_;omega
  have h2:(eL w e).1.time<=99999:=by
   unfold eL;split
   .rename_i hc;rw[xZ];omega
   exact ht
  have:=VI l (h.eL e) h2 h1;show fU (runN (cW w e).1 l) _;rw[e1];intro i hi k hk;have:=this i hi k hk;rw[List.length_cons];omega
def ali (l:List Ev):fU (bz l) 2001:=by
 have h0:fU dA 1:=by unfold fU;decide
 unfold bz;split
 .exactλi hi k hk=>by have:=h0 i hi k hk;omega
 have:=VI l K8 aN h0;intro i hi k hk;have:=this i hi k hk;show ep (runN dA l) i k<=2001;omega
def mv (a k:Int):Ev:=⟨9,a,0,0,0,k,0,0,0,0,0⟩
def alj {x:aj} (h:hO x 20) (he:l7 x) (hb:fU x 9998) (ht:x.time<=60000) {a k:Nat} (ha:a<4) (hk:k<3) (U:(ab (sv x a).aw k).bD=1):
 (cW x (mv a k)).2=true/\cN (cW x (mv a k)).1 0=cN x 0/\(ab (sv (bA 2 (cW x (mv a k)).1) (bL a)).aw k).bD=1/\(ab (sv (bA 2 (cW x (mv a k)).1) a).aw k).bD=0/\
 r8 (bA 2 (cW x (mv a k)).1)=true/\cN (bA 2 (cW x (mv a k)).1) 0=cN x 0:=by
 have hc:=h.still.calm;have e1:cr (a:Int)=true:=iF.2 om;have e2:(mv a k).at_.toNat=a:=by show((a:Int)).toNat=a;omega
 have e3:(mv a k).slot.toNat=k:=by show((k:Int)).toNat=k;omega
 have oh:(mv a k).kind=9:=rfl;have rP:lL (sv x a) (mv a k).slot=true:=by
  have:=hb a ha k hk;unfold ep at this;unfold lL;rw[e3,hc.up a ha,U];have h2:aH (mv a k).slot 0 2=true:=by show aH (k:Int) 0 2=true;simp only[aH,Bool.and_eq_true,decide_eq_true_eq];omega
  rw[h2,decide_eq_true (show(ab (sv x a).aw k).ba<9999 by omega)];rfl
 have hd:bX x (mv a k)=({x with time:=x.time+1,aA:=x.aA.set a (gV (sv x a) (mv a k).slot),al:=eo x.al [fS (gV (sv x a) (mv a k).slot) (mv a k).slot]},true):=by
  unfold bX;dsimp only;rw[if_neg om,if_neg om,if_pos (show(aH (mv a k).kind 6 9&&cr (mv a k).at_)=true by
   show(aH 9 6 9&&cr (a:Int))=true;rw[e1];decide)]
  unfold eN;dsimp only;rw[e2,if_neg om,if_neg om,if_neg om];have alk:lL (ab x.aA a) (mv a k).slot=true:=rP;rw[if_pos alk];rfl
 have Kb:cW x (mv a k)=((bX x (mv a k)).1,true):=by
  rw[Gu (iy.2 ⟨hc.inv.aK,by omega⟩)];unfold eL;rw[if_pos ⟨by omega,by rw[hd]⟩]
 have hI:Inv (bX x (mv a k)).1:=hc.inv.step _ (by rw[hd]);have hM:iz (bX x (mv a k)).1:=hc.more.step hc.inv _;rw[Kb];have fy:∀j,sv (bX x (mv a k)).1 j=if j=a then gV (sv x a) (mv a k).slot else sv x j:=λj=>by
  rw[hd];exact eO (by rw[hc.inv.aK.aA];exact ha)
 have VJ:∀j,(sv (bX x (mv a k)).1 j).ai=(sv x j).ai:=λj=>by
  rw[fy];split
  .rename_i e;rw[e];rfl
  rfl
 have z8:∀σ v,bn (bX x (mv a k)).1 σ v↔bn x σ v:=λσ v=>by
  unfold bn;refine⟨λ⟨i,h1,h2,h3⟩=>⟨i,h1,h2,by rw[<-VJ];exact h3⟩,λ⟨i,h1,h2,h3⟩=>⟨i,h1,h2,by rw[VJ];exact h3⟩⟩
 have DN:pf x a k (bX x (mv a k)).1:=by
  refine⟨⟨hI,hM,λi hi=>?_⟩,λi hi=>?_,?_,λv ⟨τ,hv⟩=>⟨τ,(z8 τ v).1 hv⟩,λn hn=>?_,?_,?_⟩
  .rw[fy];split
   .exact hc.up a ha
   exact hc.up i hi
  .have h1:=(Ml h hi).1;have h2:=h.p9 i hi;rw[fy];split
   .rename_i e;rw[e] at h1 h2;exact⟨h1,h2⟩
   exact⟨h1,h2⟩
  .rw[hd,h.still.al];show∀m∈eo [] [fS (gV (sv x a) (mv a k).slot) (mv a k).slot],7<=m.kind;rw[El bk];intro m hm;obtain rfl:m=_:=by simpa using hm
   show(7:Int)<=9;decide
  .rw[hd] at hn⊢;exact he n hn
  .rw[fy,if_pos rfl];show(ab ((sv x a).aw.set (mv a k).slot.toNat ⟨(ab (sv x a).aw (mv a k).slot.toNat).ba+1,2⟩) k).bD≠1;rw[e3,eO (by rw[(hc.inv.cQ ha).aw];exact hk),if_pos rfl];show(2:Int)≠1;decide
  rw[fy,if_neg (Ek a)];exact h.rest _ (gX ha) k hk
 obtain⟨z1,z2,z3,z4⟩:=ald h ha hk DN (λσ v hv=>(z8 σ v).2 hv) (by rw[xZ];omega);refine⟨rfl,?_,z1,z2,z3,z4 0 aN⟩;show cN (bX x (mv a k)).1 0=_;exact GB (tj hI (σ:=0) aN) (tj hc.inv (σ:=0) aN) λv=>by
  rw[show(0:Int)=((0:Nat):Int) from rfl,nb hI aN,nb hc.inv aN];exact z8 0 v
def alm (l:List Ev) {k:Nat} (hk:k<3):∃a:Nat,a<2/\(ab (sv (bA 25 (bz l)) a).aw k).bD=1/\∀a:Nat,a<2->(ab (sv (bA 25 (bz l)) a).aw k).bD=1->
 (cW (bA 25 (bz l)) (mv a k)).2=true/\cN (cW (bA 25 (bz l)) (mv a k)).1 0=cN (bA 25 (bz l)) 0/\(ab (sv (bA 2 (cW (bA 25 (bz l)) (mv a k)).1) (1-a)).aw k).bD=1/\(ab (sv (bA 2 (cW (bA 25 (bz l)) (mv a k)).1) a).aw k).bD=0/\
 r8 (bA 2 (cW (bA 25 (bz l)) (mv a k)).1)=true/\cN (bA 2 (cW (bA 25 (bz l)) (mv a k)).1) 0=cN (bA 25 (bz l)) 0:=by
 obtain⟨q,e,_,_,ht⟩:=wo l;have hb:fU (bA 25 (bz l)) 9998:=λi hi k hk=>by have:=VH 25 (r6 l).1 (ali l) i hi k hk;omega
 obtain⟨j,hj,nL,CV⟩:=Lf q.still.calm.inv q.rest (σ:=0) aN hk;refine⟨j,by omega,CV,λa ha U=>?_⟩;have:=alj q e hb om (a:=a) om hk U;rwa[show bL a=1-a by unfold bL;split<;>omega] at this
def VO (code more:List UInt8):
 Fn prog 15 [ia code,ia more] (AV.bool true):=by
 refine Fn.go 108 func15 ntmps15 (λW I a U=>?_);have hle:=U.eC (t:=0) rfl;have aqq:=U.eC (t:=1) rfl;refine pz λI a w U=>?_;refine U.cd (λae=>?_) λae=>?_
 .refine bh ?_;rfl
 refine bK λI a w U=>?_;refine U.dj [] (Ac code (by simp only[Bool.or_eq_false_iff,decide_eq_false_iff_not] at ae;omega)) (az .r aI) rfl aN rfl λl I a w F7 U=>?_;refine aG λI a w U=>?_;refine U.o (.cl (Aq l)) λU=>?_;refine U.alloc rfl dM ei λb6 I a w U=>?_;refine aB λI a w U=>?_;obtain⟨I,U⟩:=U.fb 0 6;refine U.m λU=>?_;refine U.o (.cl (Aa l)) λU=>?_;refine U.alloc rfl dM ei λb7 I a w U=>?_;refine aB λI a w U=>?_;obtain⟨I,U⟩:=U.fb 1 7;refine aG λI a w U=>?_;refine U.o (.c2 (z0 (bz l) (Ad _))) λU=>?_;refine aB λI a w U=>?_;refine U.cd (λah=>?_) λah=>?_
 .exfalso;simp at ah;skip
 refine wp_skip<|bj<|wp_seq ?_;obtain⟨hI,hT⟩:=r6 l;have jz:=wj l;have mq:=hI.aK;have nR:=Ae l;have C3:=mq.small.2.2.1.1;obtain⟨jT,lO,C4⟩:=Ap l;have C5:=jT.aK.aA;have C6:=jT.aK.small.2.2.1.1;refine bK λI a w U=>?_;refine U.o (.c1 (Aj (bz l) jz)) λU=>U.alloc rfl dM ei λb8 I a w U=>?_;refine aB λI a w U=>?_;obtain⟨I,U⟩:=U.fb 2 8;have U:=U.drop 0;refine aG λI a w U=>?_;refine U.o (sk .tt .c (λ_=>by omega)) λU=>?_;refine aB λI a w U=>?_;obtain⟨k,ek,j8⟩:∃k:Nat,(more.length:Int)%3=k/\k<3:=⟨more.length%3,by omega,by omega⟩;rw[ek] at U;obtain⟨j,nL,hj1,rP⟩:=alm l j8;refine aB λI a w U=>?_;refine St.lo (σ:=Nat) (4::(run 4 10 (run 71 37 []))) ⟨λz=>[(10,AV.int z)],λz=>[],λz=>z<=2/\∀i,i<z->¬(ab (sv (bA 25 (bz l)) i).aw k).bD=1⟩ (λz=>2-z) 0 U ?aJ ?bF;case aJ=>exact⟨by omega,λi hi=>by omega⟩
 rintro z I a w an U;obtain⟨hka,aT⟩:=an;refine aF λI a w U=>?_;refine px (λar=>?_) λar=>?_
 .have alo:z<2:=by omega
  refine wp_skip<|bj<|wp_seq<|wp_block<|wp_seq<|wp_seq ?_;have q0:=CK jT (i:=z) om;refine Bm λI a w U=>?_;refine cz (λaM=>?_) λaM=>?_
  .refine zt ?_;refine aR λI a w U=>?_;exact U.ag (z+1) (⟨by omega,λi h1=>by rcases Nat.lt_succ_iff_lt_or_eq.1 h1 with h|h;exact aT i h;rw[h];exact aM⟩)
  refine wp_skip<|bj<|wp_seq ?_;obtain⟨m1,m2,m3,m4,m5,m6⟩:=rP z alo aM;have ME:=Lc lO (mv z k);have yi:=MC 2 ME;have MF:=(iy.1 yi).1;have hz4:=MF.aA;have q1:=(MF.site z om).2.aw;have q2:=(MF.site (1-(z:Int)).toNat om).2.aw;refine bm λI a w U=>?_;refine U.o (.bd jo (.k (.k (.k bc.nil)))) λU=>?_;refine U.o (bT (VC (bA 25 (bz l)) (mv z k) lO) (az .tt (az .tt aI))) λU=>?_;refine bm λI a w U=>?_;refine U.alloc rfl dM ei λma I a w U=>?_;refine U.sb 0 λU=>?_;obtain⟨I,U⟩:=U.fb 0 11;refine aG λI a w U=>?_;refine U.o (bT (VB (cW (bA 25 (bz l)) (mv z k)).1 ME) (az .tt (az .c aI))) λU=>U.alloc rfl dM ei λzJ I a w U=>?_;refine aB λI a w U=>?_;obtain⟨I,U⟩:=U.fb 1 13;have U:=U.drop 0;refine U.dk ?_;refine nT ?_;refine rf ?_;refine .q .T (bT (GJ yi om m6) (az .ag (az .c aI))) ?_;refine bJ ?_;refine .q .T (bT (rZ (bA 25 (bz l)) 0 lO om) (az .ag (az .c aI))) ?_;refine .q .T (.cl (wc _)) ?_;refine dD ?_;refine .q .T (bT (GJ ME om m2) (az .ag (az .c aI))) ?_;refine bJ ?_;refine .q .T (bT (rZ (bA 25 (bz l)) 0 lO om) (az .ag (az .c aI))) ?_;refine .q .T (.cl (wc _)) ?_;refine dD ?_;refine .q .T (bT (VA yi m5) (az .ag aI)) ?_;refine cB ?_;refine .nil ?_;intro I a w U;refine zt ?_;refine U.rt ?_;exact bP (by unfold sv at m3 m4;rw[m1,show(1-(z:Int)).toNat=1-z from by omega,m3,m4];rfl)
 exfalso;simp only[B] at ar;exact aT j om hj1;skip
end Go.Proofs.YtdanidpleofjgaaGreat
