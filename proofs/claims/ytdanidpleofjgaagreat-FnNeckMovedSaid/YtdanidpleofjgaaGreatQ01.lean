/- Part 62: contracts of functions, plain facts. -/
import Derived.Test.YtdanidpleofjgaaGreatP56
set_option linter.all false
set_option maxRecDepth 100000
set_option maxHeartbeats 4000000
namespace Go.Proofs.YtdanidpleofjgaaGreat
open Go Go.RowKit Tryz
attribute [local irreducible] wpList Code.wp Ok
def akT (l:List (cY)) (p:(cY)->Bool) (fv:AV) (hf:∀x:cY,x∈l->kV prog fv [x.av] (AV.bool (p x))):
 Fn prog 127 [su l,fv] (AV.int (df p l)):=by
 refine Fn.go 19 func127 ntmps127 (λW I a U=>?_);have hle:=U.eC (t:=0) rfl;refine aZ λI a w U=>?_;refine St.lo (σ:=Nat) (run 2 4 (run 11 8 [])) ⟨λk=>[(8,AV.int k)],λk=>[],λk=>k<=l.length/\∀i,i<k->p (ab l i)=false⟩ (λk=>l.length-k) 0 U ?aJ ?bF;case aJ=>exact⟨Nat.zero_le _,λi hi=>by omega⟩
 rintro k I a w an U;obtain⟨hk,aT⟩:=an;refine aB λI a w U=>?_;refine cz (λae=>?_) λae=>?_
 .refine gT λI a w U=>?_;refine U.o (uT (hf _ (bf ae)) .tt (az .tt aI)) λU=>?_;refine zt ?_;refine U.cd (λah=>?_) λah=>?_
  .refine dG ?_;exact fW (mQ ae aT ah).symm
  refine aF λI a w U=>?_;exact U.ag (k+1) (⟨ae,λi h1=>by rcases Nat.lt_succ_iff_lt_or_eq.1 h1 with h|h;exact aT i h;rw[h];exact ah⟩)
 refine zt ?_;refine bh ?_;exact fW (my om aT).symm
def akU (l:List (cY)) (p:(cY)->Bool) (fv:AV) (hf:∀x:cY,x∈l->kV prog fv [x.av] (AV.bool (p x))):
 Fn prog 71 [su l,fv] (AV.bool (hasB p l)):=by
 refine Fn.go 9 func71 ntmps71 (λW I a U=>?_);refine bm λI a w U=>?_;refine U.o (.cl (akT _ _ _ hf)) λU=>?_;refine dG ?_;rfl
def r8 (w:aj):Bool:=ez w&&decide (w.al.length=0)&&de w.aA.length (λi=>calm (ab w.aA i))&&decide (cN w 0=cN w 1)
def akV (x:aj) (e:Ev) (hf:x.Fit) (hl:x.calls.length<=1048576):
 Fn prog 19 [x.av,e.av] (AV.dy [(cW x e).1.av,AV.bool (cW x e).2]):=by
 refine Fn.go 21 func19 ntmps19 (λW I a U=>?_);refine aG λI a w U=>?_;refine U.alloc rfl dM ei λb4 I a w U=>?_;refine aG λI a w U=>?_;refine U.o (.c1 (F0 x hf hl)) λU=>?_;refine aB λI a w U=>?_;refine U.cd (λae=>?_) λae=>?_
 .replace ae:=nt ae;refine zt ?_;refine U.o (.bd ei bc.nil) λU=>?_;refine aF λI a w U=>?_;refine U.ret rfl (.cons (.sx 0) (.cons (.t rfl) aW.nil)) ?_;exact(by unfold cW;rw[ae];rfl)
 replace ae:=nf ae;have hg:=iy.1 ae;refine aG λI a w U=>?_;refine U.o (.c2 (z9 x e hg.1 hg.2)) λU=>?_;refine bm λI a w U=>?_;refine U.alloc rfl dM ei λb6 I a w U=>?_;refine U.sb 1 λU=>?_;obtain⟨I,U⟩:=U.fb 1 6;refine aG λI a w U=>?_;refine U.o (.c1 (K0 (eL x e).1 (iy.1 (zZ ae e)).1.small)) λU=>?_;refine aR λI a w U=>?_;refine U.ret rfl (.cons (.sx 0) (.cons (.t rfl) aW.nil)) ?_;exact(by unfold cW;rw[ae];rfl)
def Vt {R:aj->Prop}:∀{l:List Ev} {w:aj},R w->(∀w e,e∈l->R w->R (cW w e).1)->R (runN w l)
 |[],_,h,_=>h
 |e::l,w,h,U=>Vt (l:=l) (w:=(cW w e).1) (U w e bk h) λw x hx h=>U w x (by simp[hx]) h
def yh (p:aE->aE->Bool) (x y:List aE):Bool:=decide (x.length=y.length)&&de x.length λi=>p (ab x i) (ab y i)
def akW (x y:List aE):yh mS x y=decide (x=y):=by
 rw[Bool.eq_iff_iff,decide_eq_true_eq];unfold yh;rw[Bool.and_eq_true,decide_eq_true_eq,jm];constructor
 .rintro⟨h1,h2⟩;exact Pz h1 λi hi=>by simpa[mS] using h2 i hi
 rintro rfl;exact⟨rfl,λi _=>by simp[mS]⟩
def akX (x y:List aE) (p:aE->aE->Bool) (fv:AV) (hf:∀u v:aE,kV prog fv [u.av,v.av] (AV.bool (p u v))):
 Fn prog 73 [cn x,cn y,fv] (AV.bool (yh p x y)):=by
 refine Fn.go 32 func73 ntmps73 (λW I a U=>?_);have yu:=U.eC (t:=0) rfl;have hly:=U.eC (t:=1) rfl;refine iP λI a w U=>?_;refine cz (λae=>?_) λae=>?_
 .refine bh ?_;exact bP (by unfold yh;rw[show decide (x.length=y.length)=false by simp;omega];rfl)
 refine aR λI a w U=>?_;refine St.lo (σ:=Nat) (run 4 6 (run 15 17 [])) ⟨λk=>[(17,AV.int k)],λk=>[],λk=>k<=x.length/\∀i,i<k->(λi=>p (ab x i) (ab y i)) i=true⟩ (λk=>x.length-k) 0 U ?aJ ?bF;case aJ=>exact⟨Nat.zero_le _,λi hi=>by omega⟩
 rintro k I a w an U;obtain⟨pH,aT⟩:=an;refine aB λI a w U=>?_;refine cz (λah=>?_) λah=>?_
 .refine bm λI a w U=>?_;refine U.alloc rfl bQ dO λb8 I a w U=>?_;refine aF λI a w U=>?_;obtain⟨I,U⟩:=U.fb 0 8;refine bB λI a w U=>?_;refine U.alloc rfl bQ dO λb9 I a w U=>?_;refine aB λI a w U=>?_;obtain⟨I,U⟩:=U.fb 1 9;refine bm λI a w U=>?_;refine U.o (uT (hf _ _) .tt (az .tt (az .tt aI))) λU=>?_;refine aB λI a w U=>?_;refine U.cd (λar=>?_) λar=>?_
  .replace ar:=nt ar;refine bh ?_;exact bP (by unfold yh;rw[fY (f:=λi=>p (ab x i) (ab y i)) ah ar];simp)
  replace ar:=nf ar;refine aF λI a w U=>?_;have U:=U.drop 0;exact U.ag (k+1) (⟨by omega,gI aT ar⟩)
 refine zt ?_;refine bh ?_;exact bP (by unfold yh;rw[fP aT om,show decide (x.length=y.length)=true by simp;omega];rfl)
def leaves (q:cY):Bool:=q.bD==2
def My (x:aj) (i:Nat):Bool:=calm (ab x.aA i)
def Vu (s:Server):(!s.up||decide (0<((s.waits.length:Int)+s.aD.length)+s.aV.length)||hasB leaves s.aw)=!calm s:=by
 unfold calm;simp;rfl
def Mz (x:aj):r8 x=(((ez x&&decide (x.al.length=0))&&de x.aA.length (My x))&&yh mS (cN x 0) (cN x 1)):=by
 unfold r8;rw[akW];rfl
def Vv (n:Nat):decide (0<(n:Int))=!decide (n=0):=IM n
def akY (q:cY):
 Fn prog 72 [q.av] (AV.bool (leaves q)):=by
 refine Fn.go 6 func72 ntmps72 (λW I a U=>?_);refine iP λI a w U=>?_;refine U.rt ?_;rfl
def akZ (u v:aE):
 Fn prog 74 [u.av,v.av] (AV.bool (mS u v)):=by
 refine Fn.go 8 func74 ntmps74 (λW I a U=>?_);refine cj λI a w U=>?_;refine U.o (.c2 (Rz ..)) λU=>?_;refine bh ?_;rfl
def ak0 (x:aj) (hf:x.Fit) (hl:x.calls.length<=1048576):
 Fn prog 37 [x.av] (AV.bool (r8 x)):=by
 refine Fn.go 51 func37 ntmps37 (λW I a U=>?_);have lens:x.aA.length<=9223372036854775807/\x.al.length<=9223372036854775807/\x.calls.length<=9223372036854775807/\x.seen.length<=9223372036854775807:=⟨U.ln 0 1,U.ln 0 2,U.ln 0 3,U.ln 0 4⟩;refine bm λI a w U=>?_;refine U.o (.c1 (F0 x hf hl)) λU=>?_;refine jD λI a w U=>?_;refine U.cd (λae=>?_) λae=>?_
 .rw[Vv,<-Bool.not_and] at ae;replace ae:=nt ae;refine bh ?_;exact bP (by rw[Mz];rw[ae];rfl)
 rw[Vv,<-Bool.not_and] at ae;replace ae:=nf ae;rw[Bool.and_eq_true] at ae;refine aZ λI a w U=>?_;refine St.lo (σ:=Nat) (2::(run 2 4 (run 28 18 []))) ⟨λk=>[(18,AV.int k)],λk=>[],λk=>k<=x.aA.length/\∀i,i<k->(My x) i=true⟩ (λk=>x.aA.length-k) 0 U ?aJ ?bF;case aJ=>exact⟨Nat.zero_le _,λi hi=>by omega⟩
 rintro k I a w an U;obtain⟨pH,aT⟩:=an;refine aB λI a w U=>?_;refine cz (λah=>?_) λah=>?_
 .have h4:=(La ae.1 (k:=0) om).2.1;obtain⟨ca,cw,co,ck,cs⟩:=CL ae.1 (i:=k) om;have l1:=g0 cw;have l2:=iX co;have l3:=iX ck;refine aG λI a w U=>?_;refine U.alloc rfl cv dN λb4 I a w U=>?_;refine aB λI a w U=>?_;obtain⟨I,U⟩:=U.fb 0 4;refine aG λI a w U=>?_;refine U.o (.cl (akU (ab x.aA k).aw leaves _ (λq _=>Fn.Dy (akY q)))) λU=>?_;refine XK λI a w U=>?_;refine U.cd (λar=>?_) λar=>?_
  .rw[Vu] at ar;replace ar:=nt ar;refine bh ?_;exact bP (by rw[Mz];rw[fY (f:=My x) ah ar];simp)
  rw[Vu] at ar;replace ar:=nf ar;refine aF λI a w U=>?_;have U:=U.drop 0;exact U.ag (k+1) (⟨by omega,gI aT ar⟩)
 refine zt ?_;refine U.dk ?_;refine bJ ?_;refine .o (bT (Lb x 0 ae.1 om) (az (.t rfl) (az .c aI))) ?_;refine bJ ?_;refine .o (bT (Lb x 1 ae.1 om) (az (.t rfl) (az .c aI))) ?_;refine .o (.cl (akX (cN x 0) (cN x 1) mS _ (λu v=>Fn.Dy (akZ u v)))) ?_;refine bJ ?_;refine .nil ?_;intro I a w U;refine zt ?_;refine U.rt ?_;exact bP (by rw[Mz];rw[ae.1,ae.2,fP aT om];rfl)
def ak1 {w:aj} (h:hO w 20) (ht:w.time<=99999):r8 w=true:=by
 have hc:=h.still.calm;unfold r8;simp only[Bool.and_eq_true,decide_eq_true_eq];refine⟨⟨⟨iy.2 ⟨hc.inv.aK,ht⟩,by rw[h.still.al];rfl⟩,jm.2 λi hi=>?_⟩,Mn h⟩;rw[hc.inv.aK.aA] at hi;obtain⟨h1,h2⟩:=Ml h hi;show _root_.Go.Proofs.YtdanidpleofjgaaGreat.calm (sv w i)=true;unfold calm;rw[hc.up i hi,h1,h2,h.p9 i hi];have:hasB (λx:cY=>x.bD==2) (sv w i).aw=false:=by
  rw[<-Bool.not_eq_true,E4];rintro⟨x,hx,e⟩;obtain⟨k,hk,rfl⟩:=gm hx;rw[(hc.inv.cQ hi).aw] at hk;exact h.rest i hi k hk (by simpa using e)
 rw[this];rfl
def qc (w x:aj):Prop:=∀v,(∃τ,bn x τ v)->∃τ,bn w τ v
def GH {w x:aj} (h:Inv x) (hk:∀m∈x.al,m.kind≠1) (ho:qc w x) (e:Ev):qc w (ct x e):=λv ⟨τ,hv⟩=>by
 unfold ct at hv;split at hv
 .rcases UG h e hv with h1|⟨i,m,_,hm,_,hn⟩
  .exact ho v h1
  exact absurd hn.kind (hk m hm)
 exact ho v ⟨τ,hv⟩
def GI {w x:aj} (h:gB x) (hr:Rest x) (ho:qc w x) {i:Nat} (hi:i<4):qc w (fM x i):=by
 have h0:=Mj h hr hi;have h1:qc w (ct x (ev 8 (i:Int) 0)):=GH h.calm.inv (λm hm=>by rw[h.al] at hm;simp at hm) ho _;exact(pb (R:=λy=>Phase x 5 y/\qc w y) (λy m r hy hx=>⟨hy.1.pop aN hx,GH hy.1.calm.inv (λm hm=>by have:=hy.1.kinds m hm;omega) hy.2 _⟩) 1000 ⟨h0,h1⟩).2
def ak2 {w x:aj} {r:Int} (h:hO x r) (ho:qc w x):qc w (il x):=by
 obtain⟨q1,_⟩:=h.jL (i:=0) aN;obtain⟨q2,_⟩:=q1.jL (i:=1) aN;obtain⟨q3,_⟩:=q2.jL (i:=2) aN;exact GI q3.still q3.rest (GI q2.still q2.rest (GI q1.still q1.rest (GI h.still h.rest ho aN) aN) aN) aN
def Vw {w:aj}:∀(n:Nat) {x:aj} {r:Int},hO x r->l7 x->x.time+850*n<=79999->qc w x->qc w (bA n x)
 |0,_,_,_,_,_,ho=>ho
 |n+1,x,r,h,he,ht,ho=>by
  obtain⟨e,q,uL⟩:=Vm h he;have g:=C2 h.still.calm.inv h.still.calm.more;unfold bA;rw[if_pos om];refine Vw n q uL (by have:=g.time;omega) ?_;rw[e];exact ak2 h ho
def MA {w x:aj} (hw:hO w 20) (hx:hO x 20) (ho:qc w x) (hg:∀σ v,bn w σ v->bn x σ v) {σ τ:Nat} (hσ:σ<2) (hτ:τ<2):cN x (σ:Int)=cN w (τ:Int):=
 GB (tj hx.still.calm.inv hσ) (tj hw.still.calm.inv hτ) λv=>by
  rw[nb hx.still.calm.inv hσ,nb hw.still.calm.inv hτ];exact⟨λhv=>by obtain⟨ρ,h1⟩:=ho v ⟨σ,hv⟩;exact ye hw hτ h1,λhv=>ye hx hσ (hg τ v hv)⟩
def Vx {w:aj} (h:hO w 20) (he:l7 w) (n:Nat) (ht:w.time+850*n<=79999):hO (bA n w) 20/\l7 (bA n w)/\r8 (bA n w)=true/\(∀σ:Nat,σ<2->cN (bA n w) (σ:Int)=cN w (σ:Int))/\(bA n w).calls=w.calls/\∀j,j<4->(sv (bA n w) j).aw=(sv w j).aw:=by
 obtain⟨q,e,g,s,k⟩:=Mv n h he ht;have q2:=q.less (s:=20) om;exact⟨q2,e,ak1 q2 (by have:=g.time;omega),λσ hσ=>MA h q2 (Vw n h he ht λv hv=>hv) g.dY hσ hσ,k,s⟩
def pe.trans {x y z:aj} (h:pe x y) (h':pe y z):pe x z:=⟨h'.al.trans h.al,h'.calls.trans h.calls,λj=>(h'.ai j).trans (h.ai j),λj=>(h'.waits j).trans (h.waits j),λj=>(h'.aD j).trans (h.aD j),λj=>(h'.aw j).trans (h.aw j)⟩
def ak3 {w:aj} (hg:bR w) (ht:w.time<99999) {kind:Int} (hk:kind=6\/kind=7) {i:Nat} (hi:i<4):pe w (eL w (ev kind (i:Int) 0)).1/\(kind=7->(sv (eL w (ev kind (i:Int) 0)).1 i).up=true/\∀j,(sv w j).up=true->(sv (eL w (ev kind (i:Int) 0)).1 j).up=true)/\(eL w (ev kind (i:Int) 0)).1.time<=w.time+1:=by
 have e1:cr (i:Int)=true:=iF.2 om;have e2:(ev kind (i:Int) 0).at_.toNat=i:=by show((i:Int)).toNat=i;omega
 have oh:(ev kind (i:Int) 0).kind=kind:=_root_.rfl;have hd:bX w (ev kind (i:Int) 0)=if kind=7 then({w with time:=w.time+1,aA:=w.aA.set i (jF (sv w i))},!(sv w i).up) else({w with time:=w.time+1,aA:=w.aA.set i (ll (sv w i))},(sv w i).up):=by
  unfold bX;dsimp only;rw[if_neg om,if_neg om,if_pos (show(aH (ev kind (i:Int) 0).kind 6 9&&cr (ev kind (i:Int) 0).at_)=true by
   show(aH kind 6 9&&cr (i:Int))=true;rw[e1];rcases hk with rfl|rfl<;>decide)]
  unfold eN;dsimp only;rw[e2,oh];rcases hk with rfl|rfl
  .rw[if_neg aN,if_pos aN,if_neg aN];rfl
  rw[if_pos aN,if_pos aN];rfl
 have base:∀{s:Server},s.ai=(sv w i).ai->s.waits=(sv w i).waits->s.aD=(sv w i).aD->s.aw=(sv w i).aw->pe w {w with time:=w.time+1,aA:=w.aA.set i s}:=λ{s} h1 h2 h3 h4=>by
  have e:∀j,sv {w with time:=w.time+1,aA:=w.aA.set i s} j=if j=i then s else sv w j:=λj=>eO (by rw[hg.aA];exact hi)
  refine⟨_root_.rfl,_root_.rfl,λj=>?_,λj=>?_,λj=>?_,λj=>?_⟩<;>
  .rw[e];split
   .rename_i ej;rw[ej];assumption
   rfl
 rcases hk with rfl|rfl
 .rw[if_neg (by decide:¬(6:Int)=7)] at hd;unfold eL;rw[hd];dsimp only;cases hu:(sv w i).up with
  |true=>rw[if_pos ⟨ht,_root_.rfl⟩];exact⟨base _root_.rfl _root_.rfl _root_.rfl _root_.rfl,λh=>absurd h aN,Int.le_refl _⟩
  |false=>rw[if_neg (λh=>by cases h.2)];exact⟨pe.rfl,λh=>absurd h aN,by show w.time<=_;omega⟩
 rw[if_pos (by decide:(7:Int)=7)] at hd;unfold eL;rw[hd];dsimp only;cases hu:(sv w i).up with
 |true=>rw[if_neg (λh=>by cases h.2)];exact⟨pe.rfl,λ_=>⟨hu,λ_ h=>h⟩,by show w.time<=_;omega⟩
 |false=>
  rw[if_pos ⟨ht,_root_.rfl⟩]
  refine⟨base _root_.rfl _root_.rfl _root_.rfl _root_.rfl,λ_=>?_,Int.le_refl _⟩
  have e:∀j,sv {w with time:=w.time+1,aA:=w.aA.set i (jF (sv w i))} j=if j=i then jF (sv w i) else sv w j:=λj=>eO (by rw[hg.aA];exact hi)
  refine⟨by show(sv {w with time:=w.time+1,aA:=w.aA.set i (jF (sv w i))} i).up=true;rw[e,if_pos _root_.rfl];rfl,λj hj=>?_⟩
  show(sv {w with time:=w.time+1,aA:=w.aA.set i (jF (sv w i))} j).up=true
  rw[e]
  split
  .rfl
  exact hj
def qd (w:aj):aj:=runN w ((List.range 4).map (λi:Nat=>ev 6 (i:Int) 0)++(List.range 4).map λi:Nat=>ev 7 (i:Int) 0)
def ak4 {w:aj} (h:Inv w) (hm:iz w) (ht:w.time<=90000):Inv (qd w)/\iz (qd w)/\pe w (qd w)/\(∀i,i<4->(sv (qd w) i).up=true)/\(qd w).time<=w.time+8:=by
 have step:∀{x:aj} {k:Int} {i:Nat},Inv x->iz x->x.time<=99998->(k=6\/k=7)->i<4->Inv (cW x (ev k (i:Int) 0)).1/\iz (cW x (ev k (i:Int) 0)).1/\pe x (cW x (ev k (i:Int) 0)).1/\(k=7->(sv (cW x (ev k (i:Int) 0)).1 i).up=true/\∀j,(sv x j).up=true->(sv (cW x (ev k (i:Int) 0)).1 j).up=true)/\(cW x (ev k (i:Int) 0)).1.time<=x.time+1:=λ{x k i} hI hM hT hk hi=>by
  rw[Gu (iy.2 ⟨hI.aK,by omega⟩)];obtain⟨a,b,c⟩:=ak3 hI.aK om hk hi;exact⟨hI.eL _,hM.eL hI _,a,b,c⟩
 obtain⟨i1,m1,b1,_,t1⟩:=step (k:=6) (i:=0) h hm om (.inl _root_.rfl) aN;obtain⟨i2,m2,b2,_,t2⟩:=step (k:=6) (i:=1) i1 m1 om (.inl _root_.rfl) aN;obtain⟨i3,m3,b3,_,t3⟩:=step (k:=6) (i:=2) i2 m2 om (.inl _root_.rfl) aN;obtain⟨i4,m4,b4,_,t4⟩:=step (k:=6) (i:=3) i3 m3 om (.inl _root_.rfl) aN;obtain⟨i5,m5,b5,u5,t5⟩:=step (k:=7) (i:=0) i4 m4 om (.inr _root_.rfl) aN;obtain⟨i6,m6,b6,u6,t6⟩:=step (k:=7) (i:=1) i5 m5 om (.inr _root_.rfl) aN;obtain⟨i7,m7,b7,u7,t7⟩:=step (k:=7) (i:=2) i6 m6 om (.inr _root_.rfl) aN;obtain⟨i8,m8,b8,u8,t8⟩:=step (k:=7) (i:=3) i7 m7 om (.inr _root_.rfl) aN;have e:qd w=(cW (cW (cW (cW (cW (cW (cW (cW w (ev 6 ((0:Nat):Int) 0)).1 (ev 6 ((1:Nat):Int) 0)).1 (ev 6 ((2:Nat):Int) 0)).1 (ev 6 ((3:Nat):Int) 0)).1 (ev 7 ((0:Nat):Int) 0)).1 (ev 7 ((1:Nat):Int) 0)).1 (ev 7 ((2:Nat):Int) 0)).1 (ev 7 ((3:Nat):Int) 0)).1:=by
  unfold qd runN;rw[show List.range 4=[0,1,2,3] from _root_.rfl];simp only[List.map_cons,List.map_nil,List.cons_append,List.nil_append,List.foldl_cons,List.foldl_nil]
 rw[e];refine⟨i8,m8,b1.trans (b2.trans (b3.trans (b4.trans (b5.trans (b6.trans (b7.trans b8)))))),λi hi=>?_,by omega⟩;rcases(by omega:i=0\/i=1\/i=2\/i=3) with rfl|rfl|rfl|rfl
 .exact(u8 _root_.rfl).2 _ ((u7 _root_.rfl).2 _ ((u6 _root_.rfl).2 _ (u5 _root_.rfl).1))
 .exact(u8 _root_.rfl).2 _ ((u7 _root_.rfl).2 _ (u6 _root_.rfl).1)
 .exact(u8 _root_.rfl).2 _ (u7 _root_.rfl).1
 exact(u8 _root_.rfl).1
def Vy {x y:aj} (h:pe x y) {σ:Nat} {v:aE}:bn y σ v↔bn x σ v:=by
 unfold bn;refine⟨λ⟨i,h1,h2,h3⟩=>⟨i,h1,h2,by rw[<-h.ai];exact h3⟩,λ⟨i,h1,h2,h3⟩=>⟨i,h1,h2,by rw[h.ai];exact h3⟩⟩
def ak5 {w:aj} (h:hO w 20) (he:l7 w) (ht:w.time<=70000):r8 (bA 2 (qd w))=true/\∀σ:Nat,σ<2->cN (bA 2 (qd w)) (σ:Int)=cN w (σ:Int):=by
 obtain⟨a,b,c,d,e⟩:=ak4 h.still.calm.inv h.still.calm.more om;have q:hO (qd w) 20:=⟨⟨⟨a,b,d⟩,by rw[c.al];exact h.still.al⟩,λi hi k hk=>by rw[c.aw];exact h.rest i hi k hk,λi hi=>by rw[c.aD];exact h.p9 i hi,λi hi v hv=>by rw[c.waits] at hv;exact h.cU i hi v hv⟩;have uL:l7 (qd w):=λn hn=>by rw[c.calls] at hn⊢;exact he n hn
 obtain⟨_,_,f,g,_⟩:=Vx q uL 2 om;exact⟨f,λσ hσ=>(g σ hσ).trans (MA h q (λv ⟨τ,hv⟩=>⟨τ,(Vy c).1 hv⟩) (λσ v hv=>(Vy c).2 hv) hσ hσ)⟩
structure uM (w x:aj) (t:Nat):Prop where
 aK:bR x
 time:x.time<=w.time+t
def uM.trans {w x y:aj} {a b:Nat} (h:uM w x a) (h':uM x y b):uM w y (a+b):=⟨h'.aK,by have:=h.time;have:=h'.time;omega⟩
def Ar {w:aj} (h:bR w) (e:Ev):uM w (ct w e) 1:=⟨by
 unfold ct;split
 .exact KV h e ‹_›
 exact h,nK w e⟩
def MB:∀(n:Nat) {w:aj},bR w->uM w (db n w) n
 |0,w,h=>⟨h,by show w.time<=_;omega⟩
 |n+1,w,h=>by
  unfold db;split
  .exact⟨h,by omega⟩
  have h1:uM w (dQ w) 1:=Ar h _;have:=h1.trans (MB n h1.aK);exact⟨this.aK,by have:=this.time;omega⟩
def ak6 {w:aj} (h:bR w):uM w (fN w) 7010:=by
 have b:∀{x:aj} (e:Ev),bR x->uM x (db 1000 (ct x e)) 1001:=λe hx=>by
  have h1:=Ar hx e;have:=h1.trans (MB 1000 h1.aK);exact⟨this.aK,by have:=this.time;omega⟩
 rw[yg,Ab];have a1:=Ar h (ev 7 ((0:Nat):Int) 0);have a2:=a1.trans (Ar a1.aK (ev 7 ((1:Nat):Int) 0));have a3:=a2.trans (Ar a2.aK (ev 7 ((2:Nat):Int) 0));have a4:=a3.trans (Ar a3.aK (ev 7 ((3:Nat):Int) 0));have a5:=a4.trans (MB 1000 a4.aK);have c0:=a5.trans (b (ev 8 ((0:Nat):Int) 0) a5.aK);have c1:=c0.trans (b (ev 8 ((1:Nat):Int) 0) c0.aK);have c2:=c1.trans (b (ev 8 ((2:Nat):Int) 0) c1.aK);have c3:=c2.trans (b (ev 8 ((3:Nat):Int) 0) c2.aK);have d0:=c3.trans (b (ev 2 0 ((0:Nat):Int)) c3.aK);have d1:=d0.trans (b (ev 2 0 ((1:Nat):Int)) d0.aK);exact⟨d1.aK,Int.le_trans d1.time om⟩
def MC:∀(n:Nat) {w:aj},ez w=true->ez (bA n w)=true
 |0,_,h=>h
 |n+1,w,h=>by
  unfold bA;split
  .have g:=ak6 (iy.1 h).1;exact MC n (iy.2 ⟨g.aK,by have:=g.time;omega⟩)
  exact h
def wq (w:aj) (n:Nat):aj:=runN w (((List.range 4).map (λi:Nat=>ev 6 (i:Int) 0)++(List.range 4).map λi:Nat=>ev 7 (i:Int) 0).take n)
def Vz {w:aj} (h:ez w=true) (n:Nat):ez (wq w n)=true:=Vt (R:=λx=>ez x=true) h λx e _ h=>Lc h e
def ak7 (w:aj) {k i:Nat} (hk:k<2) (hi:i<4):(cW (wq w (4*k+i)) ⟨6+(k:Int),(i:Int),0,0,0,0,0,0,0,0,0⟩).1=wq w (4*k+i+1):=by
 rcases(by omega:k=0\/k=1) with rfl|rfl<;>rcases(by omega:i=0\/i=1\/i=2\/i=3) with rfl|rfl|rfl|rfl<;>rfl
def ak8 (w:aj):wq w 8=qd w:=rfl
def GJ {x:aj} {s:Int} {l:List aE} (an:ez x=true) (wS:0<=s/\s<=1) (h:cN x s=l):Fn prog 27 [x.av,AV.int s] (cn l):=h▸rZ x s an wS
def VA {x:aj} (an:ez x=true) (h:r8 x=true):Fn prog 37 [x.av] (AV.bool true):=h▸ak0 x (iy.1 an).1.Fit (iy.1 an).1.small.2.2.1.1
def VB (x:aj) (an:ez x=true):Fn prog 36 [x.av,AV.int 2] (bA 2 x).av:=UQ x 2 an
def VC (x:aj) (e:Ev) (an:ez x=true):Fn prog 19 [x.av,e.av] (AV.dy [(cW x e).1.av,AV.bool (cW x e).2]):=akV x e (iy.1 an).1.Fit (iy.1 an).1.small.2.2.1.1
def VK (code:List UInt8):
 Fn prog 14 [ia code] (AV.bool true):=by
 refine Fn.go 62 func14 ntmps14 (λW I a U=>?_);have hle:=U.eC (t:=0) rfl;refine aZ λI a w U=>?_;refine cz (λae=>?_) λae=>?_
 .refine bh ?_;rfl
 refine bK λI a w U=>?_;refine U.dj [] (Ac code om) (az .r aI) rfl aN rfl λl I a w aek U=>?_;refine aG λI a w U=>?_;refine U.o (.cl (Aq l)) λU=>?_;refine U.alloc rfl dM ei λb4 I a w U=>?_;refine aB λI a w U=>?_;obtain⟨I,U⟩:=U.fb 0 4;refine U.m λU=>?_;refine U.o (.cl (Aa l)) λU=>?_;refine U.alloc rfl dM ei λb5 I a w U=>?_;refine aB λI a w U=>?_;obtain⟨I,U⟩:=U.fb 1 5;refine aG λI a w U=>?_;refine U.o (.c2 (z0 (bz l) (Ad _))) λU=>?_;refine aB λI a w U=>?_;refine U.cd (λah=>?_) λah=>?_
 .exfalso;simp at ah;skip
 refine wp_skip<|bj<|wp_seq ?_;obtain⟨hI,hT⟩:=r6 l;have jz:=wj l;have mq:=hI.aK;have nR:=Ae l;have C3:=mq.small.2.2.1.1;obtain⟨jT,lO,C4⟩:=Ap l;have C5:=jT.aK.aA;have C6:=jT.aK.small.2.2.1.1;refine bK λI a w U=>?_;refine U.o (.c1 (Aj (bz l) jz)) λU=>U.alloc rfl dM ei λb6 I a w U=>?_;refine aB λI a w U=>?_;obtain⟨I,U⟩:=U.fb 2 6;have U:=U.drop 0;have U:=U.drop 0;refine U.o .la λU=>?_;refine U.alloc rfl dM ei λb7 I a w U=>?_;refine aF λI a w U=>?_;refine St.lo (σ:=Nat) (run 2 8 (run 17 27 [])) ⟨λk=>[(8,AV.int k)],λk=>[Own.box b7 28 (wq (bA 25 (bz l)) (4*k)).cells],λk=>k<=2⟩ (λk=>2-k) 0 U ?aJ ?bF;case aJ=>exact Nat.zero_le _
 rintro k I a w an U;have oh:k<=2:=an;dsimp only at U;refine aF λI a w U=>?_;refine cz (λar=>?_) λar=>?_
 .have C7:k<2:=by omega
  refine aB λI a w U=>?_;refine St.lo (σ:=Nat) (9::(run 13 31 [])) ⟨λi=>[(9,AV.int i)],λi=>[Own.box b7 28 (wq (bA 25 (bz l)) (4*k+i)).cells],λi=>i<=4⟩ (λi=>4-i) 0 U ?eF ?jS;case eF=>exact Nat.zero_le _
  rintro i I a w an U;have Vq:i<=4:=an;dsimp only at U;refine aF λI a w U=>?_;refine cz (λaM=>?_) λaM=>?_
  .have ak9:i<4:=by omega
   refine bB λI a w U=>?_;refine U.o (.bd jo (.k (.k bc.nil))) λU=>?_;refine U.o (bT (VC (wq (bA 25 (bz l)) (4*k+i)) ⟨6+(k:Int),i,0,0,0,0,0,0,0,0,0⟩ (Vz lO _)) (az .tt (az .tt aI))) λU=>?_;refine jD λI a w U=>?_;rw[ak7 (bA 25 (bz l)) C7 ak9] at U;exact U.ag (i+1) (by show i+1<=_;omega)
  refine wp_exit<|cy<|cy<|fk<|wB<|bj ?_;obtain rfl:i=4:=by omega
  refine aR λI a w U=>?_;exact U.ag (k+1) (by show k+1<=_;omega)
 refine wp_exit<|cy<|cy<|fk<|bj<|wp_seq ?_;obtain rfl:k=2:=by omega
 have VD:=Vz lO 8;have hB:=ak5 (wo l).1 (wo l).2.1 om;rw[<-ak8] at hB;have yi:=MC 2 VD;obtain⟨I,U⟩:=U.fb 0 7;refine bK λI a w U=>?_;refine U.o (bT (VB (wq (bA 25 (bz l)) 8) VD) (az .tt (az .c aI))) λU=>U.alloc rfl dM ei λl6 I a w U=>?_;refine aB λI a w U=>?_;obtain⟨I,U⟩:=U.fb 1 10;refine U.dk ?_;refine bJ ?_;refine .o (bT (VA yi hB.1) (az .tt aI)) ?_;refine cB ?_;refine .q .T (bT (GJ yi om (hB.2 0 aN)) (az .ag (az .c aI))) ?_;refine bJ ?_;refine .q .T (bT (rZ (bA 25 (bz l)) 0 lO om) (az .ag (az .c aI))) ?_;refine .q .T (.cl (wc _)) ?_;refine dD ?_;refine .q .T (bT (GJ yi om (hB.2 1 aN)) (az .ag (az .c aI))) ?_;refine bJ ?_;refine .q .T (bT (rZ (bA 25 (bz l)) 1 lO om) (az .ag (az .c aI))) ?_;refine .q .T (.cl (wc _)) ?_;refine cB ?_;refine .nil ?_;intro I a w U;refine zt ?_;refine U.rt ?_;exact bP bk
end Go.Proofs.YtdanidpleofjgaaGreat
