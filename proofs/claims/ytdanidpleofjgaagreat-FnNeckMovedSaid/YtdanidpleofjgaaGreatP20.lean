/- Part 20: contracts of functions, plain facts. -/
import Derived.Test.YtdanidpleofjgaaGreatP17
import Derived.Test.YtdanidpleofjgaaGreatP18
set_option linter.all false
set_option maxRecDepth 100000
set_option maxHeartbeats 4000000
namespace Go.Proofs.YtdanidpleofjgaaGreat
open Go Go.RowKit Tryz
attribute [local irreducible] wpList Code.wp Ok
def acq (l:List (Call)) (p:(Call)->Bool) (fv:AV) (hf:∀x:Call,x∈l->kV prog fv [x.av] (AV.bool (p x))):
 Fn prog 197 [jl l,fv] (AV.int (df p l)):=by
 refine Fn.go 19 func197 ntmps197 (λW I a U=>?_);have hle:=U.eC (t:=0) rfl;refine aZ λI a w U=>?_;refine St.lo (σ:=Nat) (run 2 4 (run 11 8 [])) ⟨λk=>[(8,AV.int k)],λk=>[],λk=>k<=l.length/\∀i,i<k->p (ab l i)=false⟩ (λk=>l.length-k) 0 U ?aJ ?bF;case aJ=>exact⟨Nat.zero_le _,λi hi=>by omega⟩
 rintro k I a w an U;obtain⟨hk,aT⟩:=an;refine aB λI a w U=>?_;refine cz (λae=>?_) λae=>?_
 .refine gT λI a w U=>?_;refine U.o (uT (hf _ (bf ae)) .tt (az .tt aI)) λU=>?_;refine zt ?_;refine U.cd (λah=>?_) λah=>?_
  .refine dG ?_;exact fW (mQ ae aT ah).symm
  refine aF λI a w U=>?_;exact U.ag (k+1) (⟨ae,λi h1=>by rcases Nat.lt_succ_iff_lt_or_eq.1 h1 with h|h;exact aT i h;rw[h];exact ah⟩)
 refine zt ?_;refine bh ?_;exact fW (my om aT).symm
def Cd {a b:List au} (ha:bU a=true) (hb:bU b=true) (key:Int):bN (iV a b) key=dJ (bN a key) (bN b key):=by
 have wD:∀d∈b,lK d=true:=λd hd=>pK hb hd;have zK:∀{b:List au} {last:Int} {a:List au},bU a=true->eb last b=true->(∀d∈b,lK d=true)->bN (iV a b) key=dJ (bN a key) (bN b key):=by
  intro b;induction b with
  |nil=>
   intro last a ha _ _
   show bN a key=dJ (bN a key) gn
   rw[BZ (ui ha key)]
  |cons d r ih=>
   intro last a ha hb aT
   have hd:=aT d bk
   have jX:=hd
   simp only[lK,Bool.and_eq_true] at jX
   simp only[eb,Bool.and_eq_true] at hb
   show bN (iV (gq a d) r) key=_
   rw[ih (zw ha hd) hb.2 λe he=>aT e (by simp[he]),B0 key ha jX.2,lZ]
   split
   .rename_i hk
    have:bN r key=gn:=yU hb.2 om
    rw[this,BZ]
    have h1:=ui ha key
    rcases h1 with h1|h1
    .rw[h1,p4 (Or.inr jX.2)];exact Or.inr jX.2
    right
    unfold dJ;split
    .exact jX.2
    exact h1
   rfl
 exact zK ha hb wD
def R8 {a b:cx} (ha:tU a) (hb:tU b):tU (dJ a b):=by unfold dJ;split<;>assumption
def Fe:∀{l:List Answer},(∀a∈l,dT a=true)->∀key,tU (kO l key)
 |[],_,_=>Or.inl rfl
 |a::r,h,key=>R8 (ui (sX (h a bk)) key) (Fe (λb hb=>h b (by simp[hb])) key)
def Ce:∀{l:List Answer},(∀a∈l,dT a=true)->∀key,tU (ur l key)
 |[],_,_=>Or.inl rfl
 |a::r,h,key=>by
  refine R8 ?_ (Ce (l:=r) (λb hb=>h b (by simp[hb])) key);split
  .rename_i hy;exact Or.inr (iW (rm (h a bk) hy.1).1).2.1
  exact Or.inl rfl
def s7:∀{l:List Answer} {acc:List au},bU acc=true->(∀a∈l,dT a=true)->bU (l.foldl mX acc)=true/\∀key,bN (l.foldl mX acc) key=dJ (bN acc key) (kO l key)
 |[],acc,ha,_=>⟨ha,λkey=>by show bN acc key=dJ (bN acc key) gn;rw[BZ (ui ha key)]⟩
 |a::r,acc,ha,h=>by
  have hd:=sX (h a bk);have h1:bU (mX acc a)=true:=xD ha λd jX=>pK hd jX;have h2:=s7 (l:=r) h1 λb hb=>h b (by simp[hb]);refine⟨h2.1,λkey=>?_⟩;show bN (r.foldl mX (mX acc a)) key=_;rw[h2.2 key];unfold mX;rw[Cd ha hd,IP];rfl
def Cf (s:Server):ij s=(tZ s&&de s.aw.length (sR s)&&(de s.ai.length (oQ s s.ai)&&de s.waits.length (oQ s s.waits))&&de s.waits.length (xe s)&&de s.aD.length (sM s)):=by
 unfold ij;have e:de s.waits.length (sS s)=(de s.waits.length (oQ s s.waits)&&de s.waits.length (xe s)):=by
  rw[<-ZG];exact A3 rfl λi _=>aba s i
 have e2:de s.ai.length (ua s)=de s.ai.length (oQ s s.ai):=rfl;rw[e,e2,ZH];cases tZ s<;>cases de s.aw.length (sR s)<;>cases de s.ai.length (oQ s s.ai)<;>cases de s.waits.length (oQ s s.waits)<;>simp
def jJ (w:aj) (e:Ev):aj×Bool:=
 if fF e.ao&&decide (bY w.calls e.ao<0) then({w with calls:=w.calls++[iK w e]},j6 (w.calls++[iK w e]) w.time) else(w,false)
def gz (w:aj) (e:Ev):aj×Bool:=
 if e.kind=1 then jJ w e else
 let i:=bY w.calls e.ao
 if i<0 then(w,false)
 else if e.kind=3 then({w with calls:=w.calls.set i.toNat {ab w.calls i.toNat with over:=true}},true)
 else({w with al:=eo w.al (ie (ab w.calls i.toNat))},true)
def acr (q:Call):
 Fn prog 174 [q.av] (AV.bool (pN q)):=by
 refine Fn.go 100 func174 ntmps174 (λW I a U=>?_);have lens:q.keys.length<=9223372036854775807/\q.aC.length<=9223372036854775807/\q.aL.length<=9223372036854775807:=⟨U.ln 0 3,U.ln 0 11,U.ln 0 12⟩;refine iP λI a w U=>?_;refine St.lo (σ:=Nat) (run 3 2 (run 56 11 [])) ⟨λk=>[(11,AV.int k)],λk=>[],λk=>k<=q.aC.length/\∀i,i<k->(pL q) i=true⟩ (λk=>q.aC.length-k) 0 U ?aJ ?bF;case aJ=>exact⟨Nat.zero_le _,λi hi=>by omega⟩
 rintro k I a w an U;obtain⟨pH,aT⟩:=an;refine aB λI a w U=>?_;refine cz (λae=>?_) λae=>?_
 .refine bm λI a w U=>?_;refine U.alloc rfl ga pD λb4 I a w U=>?_;refine aF λI a w U=>?_;obtain⟨I,U⟩:=U.fb 0 4;refine U.dk ?_;refine ef ?_;refine .o (.cl (QK ..)) ?_;refine nT ?_;refine bJ ?_;refine .nil ?_;intro I a w U;refine bj ?_;refine U.cd (λah=>?_) λah=>?_
  .rw[Iz] at ah;replace ah:=nt ah;refine bh ?_;exact bP (by unfold pN nX;rw[fY (f:=pL q) ae (by unfold pL;rw[ah];rfl)];rfl)
  rw[Iz] at ah;replace ah:=nf ah;refine cj λI a w U=>?_;refine U.q .T (.cl (Iu ..)) λU=>?_;refine Ox λI a w U=>?_;refine U.q .T2 (.bd dO bc.nil) λU=>?_;refine U.q .T2 (.cl (Rz _ sI)) λU=>?_;refine aR λI a w U=>?_;refine U.cd (λar=>?_) λar=>?_
  .rw[Pn] at ar;replace ar:=nt ar;refine bh ?_;exact bP (by unfold pN nX;rw[fY (f:=pL q) ae (by unfold pL;rw[ah,ar];rfl)];rfl)
  rw[Pn] at ar;replace ar:=nf ar;refine aF λI a w U=>?_;have U:=U.drop 0;exact U.ag (k+1) (⟨by omega,gI aT (by unfold pL;rw[ah,ar];rfl)⟩)
 refine zt ?_;refine aZ λI a w U=>?_;refine St.lo (σ:=Nat) (2::(run 2 6 (run 22 70 []))) ⟨λk2=>[(70,AV.int k2)],λk2=>[],λk2=>k2<=q.aL.length/\∀i,i<k2->(rk q) i=true⟩ (λk2=>q.aL.length-k2) 0 U ?eF ?jS;case eF=>exact⟨Nat.zero_le _,λi hi=>by omega⟩
 rintro k2 I a w an U;obtain⟨zI,j7⟩:=an;refine aB λI a w U=>?_;refine cz (λaM=>?_) λaM=>?_
 .refine aG λI a w U=>?_;refine U.alloc rfl cV gK λb6 I a w U=>?_;refine aB λI a w U=>?_;obtain⟨I,U⟩:=U.fb 0 6;refine bm λI a w U=>?_;refine U.o (.c2 (QL ..)) λU=>?_;refine aB λI a w U=>?_;refine U.dk ?_;refine iC ?_;refine .q .F ((by first|exact gS iD ga .ag .ag (λhg=>by have h0:0<=cm q (ab q.aL k2).key:=(by simpa using hg);have:=vm h0;omega)|exact ku iD ga .ag .ag (λhg=>by have h0:0<=cm q (ab q.aL k2).key:=(by simpa using hg);have:=vm h0;omega)|exact kS iD ga .ag .ag (λhg=>by have h0:0<=cm q (ab q.aL k2).key:=(by simpa using hg);have:=vm h0;omega))) ?_;refine dD ?_;refine .q .F (.cl (Ry ..)) ?_;refine cB ?_;refine .nil ?_;intro I a w U;refine bj ?_;refine U.cd (λaP=>?_) λaP=>?_
  .rw[Po] at aP;replace aP:=nt aP;refine bh ?_;exact bP (by unfold pN nX;rw[fP aT om,fY (f:=rk q) aM aP];rfl)
  rw[Po] at aP;replace aP:=nf aP;refine aF λI a w U=>?_;have U:=U.drop 0;exact U.ag (k2+1) (⟨by omega,gI j7 aP⟩)
 refine zt ?_;refine ee λI a w U=>?_;refine U.q .F (.cl (Py ..)) λU=>?_;refine dG ?_;exact bP (by unfold pN nX;rw[fP aT om,fP j7 om];rfl)
def JQ (q:Call) (time:Int) (ht:time<=4611686018427387904):
 Fn prog 119 [q.av,AV.int time] (AV.bool (gx q time)):=by
 refine Fn.go 125 func119 ntmps119 (λW I a U=>?_);have lens:q.keys.length<=9223372036854775807/\q.aC.length<=9223372036854775807/\q.aL.length<=9223372036854775807:=⟨U.ln 0 3,U.ln 0 11,U.ln 0 12⟩;refine bB λI a w U=>?_;refine U.o (.c1 (Bx ..)) λU=>?_;refine bB λI a w U=>?_;refine U.q .F (.cl (jq ..)) λU=>?_;refine bB λI a w U=>?_;refine U.q .F (.cl (aaW ..)) λU=>?_;refine cj λI a w U=>?_;refine U.q .F (.cl (jq ..)) λU=>?_;refine cj λI a w U=>?_;refine U.q .F (.cl (Bz ..)) λU=>?_;refine cj λI a w U=>?_;refine U.q .F (.cl (Bz ..)) λU=>?_;refine ee λI a w U=>?_;refine U.q .F (.cl (jq ..)) λU=>?_;refine cj λI a w U=>?_;refine U.q .F (.cl (QG ..)) λU=>?_;refine bB λI a w U=>?_;refine U.q .F (.cl (acr ..)) λU=>?_;refine aF λI a w U=>?_;refine U.cd (λae=>?_) λae=>?_
 .rw[Pp] at ae;replace ae:=nt ae;refine bh ?_;exact bP (by unfold gx;rw[ae];rfl)
 rw[Pp] at ae;replace ae:=nf ae;refine DP λI a w U=>?_;refine U.q .T (mH .ag .ag (λhg=>by have:=abK ae;omega)) λU=>?_;refine DP λI a w U=>?_;refine U.q .F2 (.cl (xm ..)) λU=>?_;refine aZ λI a w U=>?_;refine U.cd (λah=>?_) λah=>?_
 .rw[Qv] at ah;replace ah:=nt ah;refine bh ?_;exact bP (by unfold gx;rw[ae,ah];rfl)
 rw[Qv] at ah;replace ah:=nf ah;refine aR λI a w U=>?_;refine cz (λar=>?_) λar=>?_
 .refine aG λI a w U=>?_;refine U.o (.c1 (xm ..)) λU=>?_;refine bh ?_;exact bP (by unfold gx oP;rw[ae,ah,if_pos ar];rfl)
 refine gT λI a w U=>?_;refine U.q .F (mH .ag .c (λhg=>by have:=ZI ae;omega)) λU=>?_;refine U.q .F .mv λU=>?_;refine U.q .F (.cl (jq ..)) λU=>?_;refine py λI a w U=>?_;refine U.cd (λaM=>?_) λaM=>?_
 .refine bh ?_;exact bP (by unfold gx oP;rw[ae,ah,if_neg ar,aM];rfl)
 refine bB λI a w U=>?_;refine U.q .T (.cl (xm ..)) λU=>?_;refine gT λI a w U=>?_;refine U.q .T2 (.cl (Py ..)) λU=>?_;refine tJ ?_;exact bP (by unfold gx oP;rw[ae,ah,if_neg ar,aM];rfl)
def vL {l:List au} {d x:au}:x∈dP l d↔x=d\/x∈l:=by
 unfold dP;split
 .rename_i h;exact⟨.inr,λh'=>h'.elim (λe=>e▸oe.1 h) id⟩
 exact EP
def JR {l:List au} {d:au} (h:fZ l=true) (hd:ka d=true) (hl:l.length<80):fZ (dP l d)=true:=by
 obtain⟨h1,h2,h3⟩:=vE.1 h;unfold dP;split
 .exact h
 rename_i hn;refine vE.2 ⟨by rw[Qs];omega,λx hx=>?_,Q1 h3 λx hx e=>hn (oe.2 (e▸hx))⟩;rcases EP.1 hx with rfl|hx
 .exact hd
 exact h2 x hx
def Ff {s:Server} {m:ax} (h:bG s) (hm:bI m=true) (ho:js (fh s m)=true):(eK s m).aq.site=s.site/\di (eK s m).aq=true/\∀x∈fh s m,x.time<(eK s m).aq.time:=by
 obtain⟨h1,h2,h3⟩:=aaP h.site (Jn h hm) ho;exact⟨h2,h1,h3⟩
def bG.R9 {s:Server} (h:bG s) {d:au} (hd:ka d=true) (hl:s.aV.length<80) (hu:s.up=true):bG {s with aV:=dP s.aV d}:=
 ⟨h.site,h.aw,h.ai,h.waits,h.aD,JR h.aV hd hl,(λe=>by rw[hu] at e;cases e),h.aK,h.here,h.nZ,h.n5,h.apart,h.ly⟩
def zL {s:Server} {slot:Int} (h:bG s) (hk:lL s slot=true):bG (gV s slot):=by
 obtain⟨_,h1,h2,h3,h4⟩:=vq hk;have hg:=rz.1 (E5 h (i:=slot.toNat) om);refine h.Q2 h1 ?_ (λv _ _=>by simp) (λv _ _=>by simp) om;rw[rz];exact⟨by simp;omega,by simp;omega,by simp,by simp,λ_=>by simp;omega⟩
def acs {q:Call} (h:q.aC.Pairwise λa b=>gW a b=true) {i:Nat} (hi:i<q.aC.length):cm q (ab q.aC i).key=i:=by
 have h0:0<=cm q (ab q.aC i).key:=vI.2 ⟨_,bf hi,rfl⟩;obtain⟨h1,h2⟩:=tY h0;have:=QR h h1 hi h2;omega
def Fg {q:Call} (h:q.aC.Pairwise λa b=>gW a b=true) {d:au}:sQ q d=true↔∃a∈q.aC,a.key=d.key/\nW a d.aq=true:=by
 unfold sQ;rw[Bool.and_eq_true,decide_eq_true_eq];constructor
 .rintro⟨h1,h2⟩;exact⟨_,bf (tY h1).1,(tY h1).2,h2⟩
 rintro⟨a,ha,hk,ho⟩;obtain⟨i,hi,rfl⟩:=gm ha;have e:=acs h hi;rw[hk] at e;rw[e];exact⟨by omega,ho⟩
def bR.send {w:aj} (h:bR w) {more:List ax} (hm:∀m∈more,bI m=true):bR {w with al:=eo w.al more}:=
 ⟨h.time,h.aA,h.site,ZL h.al,ZM h.words hm,h.seen,h.kj,h.calls⟩
def Sa (l:List aE) (v:aE) (hc:cg l=true):
 Fn prog 258 [cn l,v.av] (AV.dy [cn (if ix l v then fJ l v else l),AV.bool (ix l v)]):=by
 refine Fn.go 29 func258 ntmps258 (λW I a U=>?_);have hle:=U.eC (t:=0) rfl;have BW:=g0 hc;have jG:=pZ hc;refine bB λI a w U=>?_;refine U.o (.cl (zy ..)) λU=>?_;refine aB λI a w U=>?_;refine U.cd (λae=>?_) λae=>?_
 .exfalso;rw[hc] at ae;cases ae;skip
 refine bK λI a w U=>?_;refine U.o (.c1 (Iu ..)) λU=>?_;refine bB λI a w U=>?_;refine U.q .F (.cl (oa ..)) λU=>?_;refine U.q .F (.cl (rF ..)) λU=>?_;refine jD λI a w U=>?_;refine U.cd (λah=>?_) λah=>?_
 .rw[Qz,QA v hc] at ah;replace ah:=nt ah;refine bK λI a w U=>?_;refine U.o (bT (lf.fn (vG l om (λu hu=>by have:=jG u hu;omega))) (az .r aI)) λU=>?_;refine dG ?_;exact(by rw[ah];rfl)
 rw[Qz,QA v hc] at ah;replace ah:=nf ah;refine aG λI a w U=>?_;refine U.o (bT (E3 l v om (λu hu=>by have:=jG u hu;omega) (by have:=iE (IQ (vB ah).1);omega)) (az .r (az (.t rfl) aI))) λU=>?_;refine dG ?_;exact(by rw[ah];rfl)
def Sb {l vs:List aE} {k:Nat} (hv:VS vs) (hk:k<vs.length) (hp:placeOf l (ab vs k).aU<0):fJ (iT l (vs.take k)) (ab vs k)=iT l (vs.take (k+1)):=by
 rw[ED hk,eY,if_pos];refine zC λx hx=>?_;rcases xo hx with h|h
 .obtain⟨i,hi,rfl⟩:=gm h;have ji:i<k:=by simp at hi;omega
  have e:ab (vs.take k) i=ab vs i:=by unfold ab;simp[List.getD_eq_getElem?_getD,List.getElem?_take,ji]
  rw[e];exact RD hv om hk om
 exact pP hp x h
def Sc (l vs:List aE) (hc:cg l=true) (hv:cg vs=true):
 Fn prog 266 [cn l,cn vs] (AV.dy [cn (iT l vs),AV.bool (decide (l.length+vs.length<=80))]):=by
 refine Fn.go 33 func266 ntmps266 (λW I a U=>?_);have hl:=g0 hc;have po:=g0 hv;have jG:=pZ hc;have s8:=pZ hv;have sj:=(uj.1 hv).2.2;refine bm λI a w U=>?_;refine U.o (bT (lf.fn (vG l om (λu hu=>by have:=jG u hu;omega))) (az .r aI)) λU=>?_;refine aZ λI a w U=>?_;refine St.lo (σ:=Nat) (6::(8::(run 13 13 []))) ⟨λk=>[(13,AV.int k),(6,cn (iT l (vs.take k)))],λk=>[],λk=>k<=vs.length⟩ (λk=>vs.length-k) 0 U ?aJ ?bF;case aJ=>exact Nat.zero_le _
 rintro k I a w an U;have hk:k<=vs.length:=an;refine aB λI a w U=>?_;refine cz (λae=>?_) λae=>?_
 .refine aG λI a w U=>?_;refine U.alloc rfl bQ dO λb8 I a w U=>?_;refine aB λI a w U=>?_;obtain⟨I,U⟩:=U.fb 0 8;refine aG λI a w U=>?_;refine U.o (.c1 (oa ..)) λU=>?_;refine U.o (.cl (rF ..)) λU=>?_;refine aB λI a w U=>?_;refine cz (λah=>?_) λah=>?_
  .refine aG λI a w U=>?_;refine U.o (bT (E3 (iT l (vs.take k)) (ab vs k) (by have:=IY l vs k;omega) (λu hu=>by have:=aaf jG s8 k u hu;omega) (by have:=s8 _ (bf ae);omega)) (az .r (az (.t rfl) aI))) λU=>?_;refine aR λI a w U=>?_;have U:=U.drop 0;refine U.again (k+1) ?iG ?iH eA ?iI (by repeat(first|exact Env.le_rfl|refine Env.ja rfl ?_));case iG=>omega
   case iH=>exact ae
   case iI=>exact(Env.dK rfl eA (Env.dK rfl (by first|exact congrArg cn (Sb sj ae ah)|exact congrArg cn (Q9 ae om)) Env.le_nil))
  refine aF λI a w U=>?_;have U:=U.drop 0;refine U.again (k+1) ?nC ?nD eA ?nE (by repeat(first|exact Env.le_rfl|refine Env.ja rfl ?_));case nC=>omega
  case nD=>exact ae
  case nE=>exact(Env.dK rfl eA (Env.dK rfl (by first|exact congrArg cn (Sb sj ae ah)|exact congrArg cn (Q9 ae om)) Env.le_nil))
 refine zt ?_;refine pz λI a w U=>?_;refine U.rt ?_;exact(by rw[List.take_of_length_le om,aaQ];rfl)
def JS (q:Call) (h:zn q):
 Fn prog 85 [q.av] (q.av):=by
 refine Fn.go 45 func85 ntmps85 (λW I a U=>?_);obtain⟨h1,h2,h4,h5,h3⟩:=h;refine sr<|U.box rfl .tt λb1 I a w U=>U.alloc rfl fI j4 λb2 I a w U=>?_;refine zt ?_;refine U.l0 λb6 I a w U=>?_;refine aG λI a w U=>?_;refine U.ap 2 λv9 a w U=>?_;obtain⟨I,U⟩:=U.fr 2 9;refine aF λI a w U=>?_;refine U.l0 λma I a w U=>?_;refine aG λI a w U=>?_;refine U.ap 3 λmC a w U=>?_;obtain⟨I,U⟩:=U.fr 3 14;refine aF λI a w U=>?_;refine U.l0 λBV I a w U=>?_;refine aG λI a w U=>?_;refine U.ap 4 λrE a w U=>?_;obtain⟨I,U⟩:=U.fr 4 19;refine aF λI a w U=>?_;refine U.l0 λB5 I a w U=>?_;refine aF λI a w U=>?_;refine St.lo (σ:=Nat×Value) (run 3 3 (run 20 22 [])) ⟨λ⟨k,v⟩=>[(4,AV.int k),(3,AV.val v)],λ⟨k,v⟩=>[Own.box b1 53 q.cells,Own.box b2 53 [AV.val (.int .i64 0),AV.val (.int .i64 0),AV.val (.int .i64 0),AV.rows 1 [],AV.val (.int .i64 0),AV.rows 3 [],AV.val (.int .i64 0),AV.val (.int .i64 0),AV.val (.bool false),AV.val (.int .i64 0),AV.val (.int .i64 0),AV.rows 9 [],AV.rows 3 []],Own.gone,Own.gone,Own.gone,Own.row v 128 9 ((q.aC.take k).map Answer.cells)],λ⟨k,v⟩=>k<=q.aC.length⟩ (λ⟨k,v⟩=>q.aC.length-k) (0,.slice (some ⟨B5,0,none⟩) 0 0) U ?aJ ?bF;case aJ=>exact Nat.zero_le _
 rintro⟨k,v⟩ I a w an U;have hk:k<=q.aC.length:=an;dsimp only at U;refine cI λI a w U=>?_;refine cz (λae=>?_) λae=>?_
 .refine cj λI a w U=>?_;refine U.alloc rfl ga pD λb5 I a w U=>?_;refine bm λI a w U=>?_;refine U.o (.c1 (pO _ (h5 _ (bf ae)))) λU=>U.o .fv λU=>U.se 6 bQ .tt .tt rfl rfl rfl λa w U=>?_;refine aG λI a w U=>?_;refine U.o (.li [(ab q.aC k).cells] ve (.u .nil)) λU=>?_;refine U.ap 5 λEZ a w U=>?_;rw[cF,<-eT ae] at U;refine aZ λI a w U=>?_;have U:=U.drop 6;exact U.ag (k+1,EZ) (ae)
 refine wp_exit<|cy<|cy<|fk<|bj<|wp_seq ?_;rw[List.take_of_length_le om] at U;obtain⟨I,U⟩:=U.fr 5 3;refine cI λI a w U=>?_;refine U.ret rfl (.cons (.sx 1) aW.nil) ?_;rfl
def Sd (key:Int):kH (xF key):=PI rfl rfl rfl rfl
def acu {q:Call} (h:q.ctx.length<=1048576):∀m∈asks q,kH m:=by
 intro m hm;unfold asks at hm;split at hm
 .obtain rfl:=List.mem_singleton.1 hm;exact⟨h,⟨Nat.zero_le _,λ_ h=>by cases h⟩,⟨Nat.zero_le _,λ_ h=>by cases h⟩,Nat.zero_le _⟩
 rcases List.mem_append.1 hm with hm|hm
 .obtain⟨k,_,rfl⟩:=List.mem_map.1 hm;exact Sd k
 obtain⟨d,_,rfl⟩:=List.mem_map.1 hm;exact Rb d
def acv {q:Call} {a:Answer} {k:Nat} (hd:bU q.aL=true) (h:k<q.aL.length) (he:ab q.aL k=a.bl.aU):pS q a k=q.aC:=by
 unfold pS;rw[if_neg];intro hm;obtain⟨i,hi,e⟩:=List.getElem_of_mem hm;have qX:i<k/\i<q.aL.length:=by simp at hi;omega
 rw[List.getElem_take] at e;have e2:ab q.aL i=a.bl.aU:=by rw[<-e];simp[ab,qX.2]
 have:=B6 hd qX.1 h;rw[e2,he] at this;omega
def acw (v:Value) (l:List (List AV)) (x:List AV) (i:Nat) (hi:i<=l.length) (hl:l.length<=1048576) (eQ:∀r∈l,r.length=9) (hx:x.length=9):
 jC prog 252 [AV.val v,AV.int i,AV.rows 9 [x]] [Own.row v 128 9 l] [] (AV.rows 9 (l.take i++x::l.drop i)):=by
 refine jC.intro 95 func252 rfl ntmps252 rfl aS (λW I a U=>?_);obtain⟨q,cap,rfl,nh⟩:=U.Bh 0 rfl;refine bm λI a w U=>?_;refine U.o (Hz iD ga .tt .tt ⟨by omega,by omega⟩ nh) λU=>?_;refine bK λI a w U=>?_;refine U.o (AG iD .tt) λU=>?_;rw[show(([x]:List (List AV)).length:Int)=1 from rfl] at U;refine aR λI a w U=>?_;refine U.cd (λae=>?_) λae=>?_
 .exfalso;simp at ae;skip
 refine iP λI a w U=>?_;refine cz (λah=>?_) λah=>?_
 .refine aG λI a w U=>?_;refine U.append 0 rfl iD ga rfl .tt .tt rfl (by simp only[List.length_singleton];omega) λxC a w U=>?_;obtain⟨I,U⟩:=U.fr 0 25;have U:=U.drop 0;refine aB λI a w U=>?_;refine U.tI rfl (.cons .x .nil) rfl ?_;exact congrArg (AV.rows 9) (by rw[show i=l.length by omega];simp)
 refine bB λI a w U=>?_;refine U.o (HB iD .tt) λU=>?_;refine aB λI a w U=>?_;refine cz (λar=>?_) λar=>?_
 .refine zt ?_;have aX:l≠[]:=by intro e;rw[e] at hi ah;simp at hi ah;omega
  obtain⟨b,oC,he,kT,jZ,mr,U⟩:=U.tF 0 rfl aX;simp only[Value.slice.injEq] at he;obtain⟨rfl,_,rfl⟩:=he;have hA:(l.take i).flatten.length=i*9:=by rw[hZ λr hr=>eQ r (List.mem_of_mem_take hr),List.length_take,Nat.min_eq_left hi]
  have hB:(l.drop i).flatten.length=(l.length-i)*9:=by rw[hZ λr hr=>eQ r (List.mem_of_mem_drop hr),List.length_drop]
  rw[show l.flatten=(l.take i).flatten++(l.drop i).flatten by rw[<-List.flatten_append,List.take_append_drop],List.map_append] at U;have g7:([x]:List (List AV)).flatten.length=9:=by simpa using hx
  have hlen:(l.take i++x::l.drop i).length=l.length+1:=by simp;omega
  have nB:∀r∈l.take i++x::l.drop i,r.length=9:=λr hr=>(List.mem_append.1 hr).elim (λh=>eQ r (List.mem_of_mem_take h)) λh=>(List.mem_cons.1 h).elim (λe=>e▸hx) λh=>eQ r (List.mem_of_mem_drop h);have rC:(l.take i++x::l.drop i).flatten.map some=(l.take i).flatten.map some++([x]:List (List AV)).flatten.map some++(l.drop i).flatten.map some:=by simp
  refine aG λI a w U=>?_;refine U.o (tH (hi:=i) iD ga .tt .tt rfl om om) λU=>?_;refine cj λI a w U=>?_;refine U.HC (kd:=l.length+1-i) (xs:=(l.take i).flatten) 0 iD rh ga rfl aN .tt .tt om om rfl (by rw[List.drop_zero,List.append_assoc];exact lg _ (List.length_map _)) hA om om om rfl λ{gb BP a w} sf u9 U=>?_;refine bm λI a w U=>?_;refine U.o (kx (lo:=i) iD ga .tt .tt rfl om om) λU=>?_;refine U.m λU=>?_;refine U.yE 1 iD ga .tt .tt rfl bk (by simp only[List.length_singleton];omega) (by simp only[List.length_singleton,List.length_append,List.length_map,List.length_replicate,hA];omega) rfl λU=>?_;refine zt ?_;refine U.dt 8 ?_;simp only[TD];refine ef ?_;refine .o (kx (lo:=i+1) iD ga .tt .tt om om om) ?_;refine cB ?_;refine .o (kx (lo:=i) iD ga .tt .tt rfl om om) ?_;refine .nil ?_;intro I a w U;refine U.yF (xs:=(l.drop i).flatten) 1 0 iD ga .tt .tt rfl rfl (by rw[List.append_assoc,wT _ (by simp only[List.length_map,hA];omega)];exact lg _ (List.length_map _)) (by rw[hB,Nat.min_eq_left om]) (by rw[lW (by simp only[List.length_map,List.length_append,List.length_replicate,g7,hA];omega)];simp only[List.length_append,List.length_map,List.length_replicate,hA,hB];omega) rfl λU=>?_;rw[HI (by simp only[List.length_map,hA];omega) (by simp only[List.length_map,g7];omega) (by simp only[List.length_map,List.length_replicate,g7,hB];omega)] at U;have U:=U.tG (l:=l.take i++x::l.drop i) (cap:=BP) 1 rfl (by simp only[List.length_append,List.length_map,List.length_drop,List.length_replicate,hA,hB,g7];omega) nB om om om (by rw[rC,hlen];exact lg _ (by simp only[List.length_append,List.length_map,hA,hB,g7];omega));rw[show i+(l.length+1-i)=(l.take i++x::l.drop i).length by omega] at U;obtain⟨I,U⟩:=U.fr 1 9;have U:=U.drop 0;refine aF λI a w U=>?_;exact U.tI rfl (.cons (by first|exact .t rfl|exact .nil rfl) .nil) rfl rfl
 refine zt ?_;have aX:l≠[]:=by intro e;rw[e] at hi ah;simp at hi ah;omega
 obtain⟨b,oC,he,kT,jZ,mr,U⟩:=U.tF 0 rfl aX;simp only[Value.slice.injEq] at he;obtain⟨rfl,_,rfl⟩:=he;have hA:(l.take i).flatten.length=i*9:=by rw[hZ λr hr=>eQ r (List.mem_of_mem_take hr),List.length_take,Nat.min_eq_left hi]
 have hB:(l.drop i).flatten.length=(l.length-i)*9:=by rw[hZ λr hr=>eQ r (List.mem_of_mem_drop hr),List.length_drop]
 rw[show l.flatten=(l.take i).flatten++(l.drop i).flatten by rw[<-List.flatten_append,List.take_append_drop],List.map_append] at U;have g7:([x]:List (List AV)).flatten.length=9:=by simpa using hx
 have hlen:(l.take i++x::l.drop i).length=l.length+1:=by simp;omega
 have nB:∀r∈l.take i++x::l.drop i,r.length=9:=λr hr=>(List.mem_append.1 hr).elim (λh=>eQ r (List.mem_of_mem_take h)) λh=>(List.mem_cons.1 h).elim (λe=>e▸hx) λh=>eQ r (List.mem_of_mem_drop h);have rC:(l.take i++x::l.drop i).flatten.map some=(l.take i).flatten.map some++([x]:List (List AV)).flatten.map some++(l.drop i).flatten.map some:=by simp
 refine bB λI a w U=>?_;refine U.o (tH (hi:=l.length+1) iD ga .tt .tt om om om) λU=>?_;refine ee λI a w U=>?_;refine U.o (kx (lo:=i+1) iD ga .tt .tt om om om) λU=>?_;refine U.overlaps (tR:=4) 0 func267 rfl aS aS aS iD ga aN .tt bk .tt rfl rfl λU=>?_;refine aB λI a w U=>?_;refine U.cd (λaM=>?_) λaM=>?_
 .refine wp_seq ?_;refine U.dt 8 ?_;simp only[TD];refine ef ?_;refine .o (kx (lo:=i+1) iD ga .tt .tt om om om) ?_;refine cB ?_;refine .o (kx (lo:=i) iD ga .tt .tt rfl om om) ?_;refine .nil ?_;intro I a w U;refine U.yF (xs:=(l.drop i).flatten) 0 0 iD ga .tt .tt rfl rfl (by rw[List.append_assoc,wT _ (by simp only[List.length_map,hA];omega)];exact lg _ (List.length_map _)) (by rw[hB];congr 1;omega) (by simp only[List.length_append,List.length_map,List.length_replicate,hA,hB];omega) rfl λU=>?_;refine aG λI a w U=>?_;refine U.o (kx (lo:=i) iD ga .tt .tt rfl om om) λU=>?_;refine U.m λU=>?_;refine U.yE 0 iD ga .tt .tt rfl bk (by simp only[List.length_singleton];omega) (by rw[lW (by simp only[List.length_map,List.length_append,List.length_replicate,hA,hB];omega)];simp only[List.length_singleton,List.length_append,List.length_map,List.length_replicate,hA,hB];omega) rfl λU=>?_;rw[HH (by simp only[List.length_map,hA];omega) (by simp only[List.length_map,g7];omega) (by simp only[List.length_map,List.length_replicate,g7];omega)] at U;have U:=U.tG (l:=l.take i++x::l.drop i) (cap:=cap) 0 rfl (by simp only[List.length_append,List.length_map,List.length_drop,List.length_replicate,hA,hB,g7];omega) nB om om om (by rw[rC,hlen];exact lg _ (by simp only[List.length_append,List.length_map,hA,hB,g7];omega));rw[show l.length+1=(l.take i++x::l.drop i).length by omega] at U;obtain⟨I,U⟩:=U.fr 0 0;have U:=U.drop 0;refine aF λI a w U=>?_;exact U.tI rfl (.cons (by first|exact .t rfl|exact .nil rfl) .nil) rfl rfl
 exfalso;simp at aM;skip
def acx {s:Server} {d:au} (h:fZ s.aD=true):s.aD.filter (λx=>!decide (x=d))=if 0<=eW s.aD d then s.aD.take (eW s.aD d).toNat++s.aD.drop ((eW s.aD d).toNat+1) else s.aD:=by
 split
 .rename_i hi;refine abG ((vE.1 h).2.2.imp λ{a b} hl e=>?_) (P8 hi) (of_decide_eq_true (EA (p:=λe=>decide (e=d)) hi).2.1);subst e;rw[xB] at hl;cases hl
 rename_i hi;exact List.filter_eq_self.2 λx hx=>by simpa using RF om x hx
def acy (l:List Call) (ao:Int) {k:Nat} (hk:k<=l.length) (h:l.length<=k):tP l ao k=tW l ao:=by
 have key:∀k,k<=l.length->tP l ao k=(l.take k).foldl (λn q=>if q.ao=ao then q.num else n) 0:=by
  intro k;induction k with
  |zero=>intro _;simp[tP]
  |succ k ih=>intro h;rw[eT om,List.foldl_append];show(if _ then _ else tP l ao k)=_;rw[ih om];rfl
 unfold tW;rw[key k hk,List.take_of_length_le h]
def JT {w:aj} {e:Ev} (h:(fF e.ao&&decide (bY w.calls e.ao<0))=false):jJ w e=(w,false):=by unfold jJ;rw[h];rfl
def Cg {w:aj} {e:Ev} (h:(fF e.ao&&decide (bY w.calls e.ao<0))=true):jJ w e=({w with calls:=w.calls++[iK w e]},j6 (w.calls++[iK w e]) w.time):=by unfold jJ;rw[h];rfl
def bR.Se {w:aj} (h:bR w) {i:Nat} (hi:i<2):(ab w.seen i).length<=6:=iE (h.kj _ (bf (by rw[h.seen];exact hi)))
def acz {w:aj} {e:Ev} (h:e.kind=7):eN w e=({w with aA:=w.aA.set e.at_.toNat (jF (ab w.aA e.at_.toNat))},!(ab w.aA e.at_.toNat).up):=by unfold eN;rw[if_pos h]
def acA {w:aj} {e:Ev} (h:e.kind=6):eN w e=({w with aA:=w.aA.set e.at_.toNat (ll (ab w.aA e.at_.toNat))},(ab w.aA e.at_.toNat).up):=by unfold eN;rw[if_neg om,if_pos h]
def acB {w:aj} {e:Ev} (h:e.kind=8):eN w e=({w with al:=eo w.al (gy (ab w.aA e.at_.toNat))},(ab w.aA e.at_.toNat).up):=by unfold eN;rw[if_neg om,if_neg om,if_pos h]
def JU (l:List Call) (t:Int) (s r z:Value) (ao:Int):
 Fn prog 155 [AV.ptr [AV.int t,AV.val s,AV.val r,jl l,AV.val z],AV.int ao] (AV.int (bY l ao)):=by
 refine Fn.go 11 func155 ntmps155 (λW I a U=>?_);refine zt ?_;refine U.o (yr .tt (by first|exact lG rfl|exact lQ|exact lR|exact lV)) λU=>?_;refine cj λI a w U=>?_;refine U.o (oD (az .tt aI)) λU=>?_;refine U.o (.cl (acq l (ri ao) _ (λq _=>Fn.val (Zt q ao)))) λU=>?_;refine bh ?_;rfl
def ab0 (l:List aE) (ds:List au):
 Fn prog 112 [cn l,bE ds] (AV.bool (yZ l ds)):=by
 refine Fn.go 9 func112 ntmps112 (λW I a U=>?_);refine zt ?_;refine U.o (yr .tt (by first|exact lG rfl|exact lQ|exact lR|exact lV)) λU=>?_;refine aG λI a w U=>?_;refine U.o (oD (az .tt aI)) λU=>?_;refine U.o (.cl (QW ds (missing l) _ (λd _=>Fn.val (abI d l)))) λU=>?_;refine dG ?_;rfl
def xM (s:Server):
 Fn prog 56 [s.av] (AV.bool (ij s)):=by
 refine Fn.go 127 func56 ntmps56 (λW I a U=>?_);have lens:s.aw.length<=9223372036854775807/\s.ai.length<=9223372036854775807/\s.waits.length<=9223372036854775807/\s.aD.length<=9223372036854775807:=⟨U.ln 0 2,U.ln 0 3,U.ln 0 4,U.ln 0 5⟩;refine bB λI a w U=>?_;refine U.o (.c1 (tQ ..)) λU=>?_;refine va λI a w U=>?_;refine U.q .F (.cl (zy ..)) λU=>?_;refine cj λI a w U=>?_;refine U.q .F (.cl (zy ..)) λU=>?_;refine cj λI a w U=>?_;refine U.q .F (.cl (Jf ..)) λU=>?_;refine cj λI a w U=>?_;refine U.q .F (.cl (Jf ..)) λU=>?_;refine Bo λI a w U=>?_;refine U.cd (λae=>?_) λae=>?_
 .rw[Ep] at ae;replace ae:=nt ae;refine bh ?_;exact bP (by unfold ij;rw[ae];rfl)
 rw[Ep] at ae;replace ae:=nf ae;obtain⟨Cb,xN,JK,hco,hck,JL⟩:=Er ae;refine aZ λI a w U=>?_;refine St.lo (σ:=Nat) (2::(4::(run 25 57 []))) ⟨λk1=>[(57,AV.int k1)],λk1=>[],λk1=>k1<=s.aw.length/\∀i,i<k1->(sR s) i=true⟩ (λk1=>s.aw.length-k1) 0 U ?aJ ?bF;case aJ=>exact⟨Nat.zero_le _,λi hi=>by omega⟩
 rintro k1 I a w an U;obtain⟨ab3,xO⟩:=an;refine aB λI a w U=>?_;refine cz (λah=>?_) λah=>?_
 .refine aG λI a w U=>?_;refine U.alloc rfl fo oN λb4 I a w U=>?_;refine aB λI a w U=>?_;obtain⟨I,U⟩:=U.fb 0 4;refine aG λI a w U=>?_;refine U.o (.cl (jq ..)) λU=>?_;refine bB λI a w U=>?_;refine U.q .F (.cl (jq ..)) λU=>?_;refine Bn λI a w U=>?_;refine U.cd (λar=>?_) λar=>?_
  .rw[IK] at ar;replace ar:=nt ar;refine bh ?_;exact bP (by unfold ij;rw[ae,fY (f:=sR s) ah ar];simp)
  rw[IK] at ar;replace ar:=nf ar;refine aF λI a w U=>?_;have U:=U.drop 0;exact U.ag (k1+1) (⟨by omega,gI xO ar⟩)
 refine zt ?_;refine aZ λI a w U=>?_;refine St.lo (σ:=Nat) (2::(6::(run 10 85 []))) ⟨λk2=>[(85,AV.int k2)],λk2=>[],λk2=>k2<=s.ai.length/\∀i,i<k2->(ua s) i=true⟩ (λk2=>s.ai.length-k2) 0 U ?eF ?jS;case eF=>exact⟨Nat.zero_le _,λi hi=>by omega⟩
 rintro k2 I a w an U;obtain⟨zI,j7⟩:=an;refine aB λI a w U=>?_;refine cz (λaM=>?_) λaM=>?_
 .refine aG λI a w U=>?_;refine U.alloc rfl bQ dO λb6 I a w U=>?_;refine aB λI a w U=>?_;obtain⟨I,U⟩:=U.fb 0 6;refine bm λI a w U=>?_;refine U.o (.c2 (Jp _ _ (rq (vA xN aM)) Cb)) λU=>?_;refine aB λI a w U=>?_;refine U.cd (λaP=>?_) λaP=>?_
  .rw[PR] at aP;replace aP:=nt aP;refine bh ?_;exact bP (by unfold ij;rw[ae,fP xO om,fY (f:=ua s) aM aP];simp)
  rw[PR] at aP;replace aP:=nf aP;refine aF λI a w U=>?_;have U:=U.drop 0;exact U.ag (k2+1) (⟨by omega,gI j7 aP⟩)
 refine zt ?_;refine aZ λI a w U=>?_;refine St.lo (σ:=Nat) (2::(8::(run 24 98 []))) ⟨λk3=>[(98,AV.int k3)],λk3=>[],λk3=>k3<=s.waits.length/\∀i,i<k3->(sS s) i=true⟩ (λk3=>s.waits.length-k3) 0 U ?jh ?oY;case jh=>exact⟨Nat.zero_le _,λi hi=>by omega⟩
 rintro k3 I a w an U;obtain⟨RT,vJ⟩:=an;refine aB λI a w U=>?_;refine cz (λbx=>?_) λbx=>?_
 .refine aG λI a w U=>?_;refine U.alloc rfl bQ dO λb8 I a w U=>?_;refine aB λI a w U=>?_;obtain⟨I,U⟩:=U.fb 0 8;refine U.dk ?_;refine dD ?_;refine .o (.c2 (Jp _ _ (rq (vA JK bx)) Cb)) ?_;refine ef ?_;refine .q .F (.cl (Ix ..)) ?_;refine iC ?_;refine .q .F (.cl (oa ..)) ?_;refine .q .F (.cl (rF ..)) ?_;refine cB ?_;refine .nil ?_;intro I a w U;refine bj ?_;refine U.cd (λbt=>?_) λbt=>?_
  .rw[PS] at bt;replace bt:=nt bt;refine bh ?_;exact bP (by unfold ij;rw[ae,fP xO om,fP j7 om,fY (f:=sS s) bx bt];simp)
  rw[PS] at bt;replace bt:=nf bt;refine aF λI a w U=>?_;have U:=U.drop 0;exact U.ag (k3+1) (⟨by omega,gI vJ bt⟩)
 refine zt ?_;refine bB λI a w U=>?_;refine U.o (.cl (ab0 ..)) λU=>?_;refine bh ?_;exact bP (by unfold ij;rw[ae,fP xO om,fP j7 om,fP vJ om];simp)
def xP (c:Call) (time:Int):gx c time=(ru c time&&zm c&&de c.aC.length (vi c)&&EJ c&&de c.aL.length (vj c)&&Et c time):=by
 have e0:aH c.ao 0 1=fF c.ao:=rfl;cases eH:iu c
 .have h1:gx c time=false:=by simp[gx,mT,eH]
  have h2:ru c time=false:=by
   rw[<-Pu] at eH;unfold ru;cases h3:aH c.kind 1 2
   .simp
   rw[h3,Bool.true_and] at eH;rw[eH];simp
  rw[h1,h2];simp
 have E2:lj c.keys=true:=by unfold iu at eH;rw[Bool.and_eq_true] at eH;exact eH.1
 have j8:=eH;rw[<-Pu,Bool.and_eq_true] at j8;have E9:c.kind=1\/c.kind=2:=by have:=j8.1;simp[aH] at this;omega
 have e1:de c.aC.length (vi c)=nX c:=A3 rfl λi _=>abJ E2 i;rw[e1];cases hg:nX c
 .simp[gx,mT,pN,hg]
 have hle:=JA E2 hg;cases cR:bU c.aL
 .simp[gx,mT,ru,cR]
 have e2:de c.aL.length (vj c)=de c.aL.length (rk c):=A3 rfl λi hi=>aa9 hg cR hi;rw[e2];unfold gx mT pN zl oP ru zm EJ Et;rw[e0,eH,j8.1,j8.2,hg,cR];generalize fF c.ao=b1;generalize aH c.num 1 99=b2;generalize bU c.ctx=b4;generalize aH c.bH 1 time=b5;generalize de c.aL.length (rk c)=b6;generalize aH c.end_ (c.bH+1) time=b7;have e3:(decide (0<c.val)&&aH c.val 0 9999)=((c.val !=0)&&aH c.val 0 9999):=by
  rw[Bool.eq_iff_iff];simp[aH];omega
 have e4:pM c=decide (c.aC.length=c.keys.length):=Qq _ _;have e5:((c.aL.length:Int)==0)=decide (c.aL.length=0):=Z1 _;have e6:decide (0<(c.aL.length:Int))=!decide (c.aL.length=0):=IM _;have e7:decide ((c.aC.length:Int)<c.keys.length)=!decide (c.aC.length=c.keys.length):=aaH hle;have e8:decide ((c.keys.length:Int)<c.aC.length)=false:=by simp;omega
 have e9:((c.aC.length:Int)==c.keys.length)=decide (c.aC.length=c.keys.length):=Qq _ _;have e10:decide (0<(c.aC.length:Int)+c.aL.length)=!(decide (c.aC.length=0)&&decide (c.aL.length=0)):=PY _ _;rw[e4,e5,e6,e7,e8,e9,e10];have e11:lU c.aq=(dS c.aq||di c.aq):=rfl;rw[e11];cases hv:aH c.val 0 9999
 .simp
 rw[hv,Bool.and_true,Bool.and_true] at e3;rw[e3];generalize decide (c.aC.length=c.keys.length)=b9;generalize decide (c.aC.length=0)=l6;generalize decide (c.aL.length=0)=ma;generalize (c.val !=0)=xQ;generalize c.over=uw;by_cases hn:dS c.aq=true
 .have U:di c.aq=false:=by
   cases U:di c.aq
   .rfl
   have:=rl U;simp[dS] at hn;omega
  rw[hn,U];rcases E9 with hh|hh<;>rw[hh]<;>by_cases he:c.end_=0<;>simp[he]<;>revert b1 b2 b4 b5 b6 b7 b9 l6 ma xQ uw<;>decide
 simp only[Bool.not_eq_true] at hn;rw[hn];generalize di c.aq=zJ;rcases E9 with hh|hh<;>rw[hh]<;>by_cases he:c.end_=0<;>simp[he]<;>revert b1 b2 b4 b5 b6 b7 b9 l6 ma xQ zJ uw<;>decide
def RU:∀{a b:List au} {last:Int},eb last a=true->eb last b=true->(∀key,bN a key=bN b key)->a=b
 |[],[],_,_,_,_=>rfl
 |[],e::r,_,_,h,he=>by
  have:=he e.key;rw[lZ,if_pos rfl] at this;simp only[eb,Bool.and_eq_true] at h;have h1:=rl h.1.2;rw[<-this] at h1;simp[bN] at h1
 |e::r,[],_,h,_,he=>by
  have:=he e.key;rw[lZ,if_pos rfl] at this;simp only[eb,Bool.and_eq_true] at h;have h1:=rl h.1.2;rw[this] at h1;simp[bN] at h1
 |e::r,e'::r',last,h,h',he=>by
  have g:=h;have g':=h';simp only[eb,Bool.and_eq_true] at h h';have aX:∀{e e':au} {r r':List au},di e.aq=true->eb e'.key r'=true->(∀key,bN (e::r) key=bN (e'::r') key)->¬e.key<e'.key:=λ{e e' r r'} U hr he bw=>by
   have:=he e.key;rw[lZ,if_pos rfl,lZ,if_neg om,yU hr om] at this;have h1:=rl U;rw[this] at h1;simp at h1
  have hk:e.key=e'.key:=by
   have h1:=aX h.1.2 h'.2 he;have h2:=aX h'.1.2 h.2 λkey=>(he key).symm;omega
  have be:e.aq=e'.aq:=by
   have:=he e.key;rwa[lZ,if_pos rfl,lZ,if_pos hk.symm] at this
  have hr:r=r':=by
   rw[<-hk] at h';refine RU h.2 h'.2 λkey=>?_;have:=he key;rw[lZ,lZ,<-hk] at this;by_cases oh:e.key=key
   .rw[yU h.2 om,yU h'.2 om]
   rwa[if_neg oh,if_neg oh] at this
  obtain⟨k1,s1⟩:=e;obtain⟨k2,s2⟩:=e';simp at hk be;rw[hk,be,hr]
def fT (s:Server) (m:ax):Server×List ax:=
 if aH m.aO 10 11&&decide (1<=m.call)&&fq s m.key then
  match ki s m.key (m.aO-10) m.call with
  |some v=>(s,[mU s m v.aq])
  |none=>if js (fh s m)&&ix s.ai (eK s m)&&decide (s.aD.length<80) then
    (dB {s with ai:=fJ s.ai (eK s m),aD:=dP s.aD (eK s m).aU},[mU s m (eK s m).aq])
   else(s,[])
 else(s,[])
def Fa {l:List aE} {v:aE} (h:cg l=true) (hv:dL v=true) (hp:placeOf l v.aU<0) (hl:l.length<80):cg (fJ l v)=true:=by
 obtain⟨h1,h2,h3⟩:=uj.1 h;refine uj.2 ⟨by rw[P1];omega,λx hx=>?_,JB h3 (pP hp)⟩;rcases gL.1 hx with rfl|hx
 .exact hv
 exact h2 x hx
def fg.xR {s:Server} (h:fg s) (hp:0<=dx s):fg (mw s (dx s).toNat):=by
 obtain⟨hl,pT,_⟩:=vw hp;have hm:=bf hl;have hws:=(uj.1 h.waits).2.2;refine⟨h.aw,Fa h.ai (fi h.waits _ hm) (h.apart _ hm) pT,xJ h.waits (xu _ _),λv hv=>zC λx hx=>?_,h.aV⟩;obtain⟨k,hk,aX,rfl⟩:=Qy hv;rcases gL.1 hx with rfl|hx
 .exactλe=>RD hws hk hl aX e.symm
 exact pP (h.apart _ (bf hk)) x hx
def fg.JM {s:Server} (h:fg s):fg (gZ s):=by
 have:∀(n:Nat) (s:Server),fg s->fg (iR n s):=by
  intro n;induction n with
  |zero=>exactλs h=>h
  |succ n ih=>
   intro s h
   unfold iR
   split
   .exact h
   exact ih _ (h.xR om)
 exact this _ _ h
def fg.settle {s:Server} (h:fg s):fg (dB s):=by
 have h2:=h.JM;exact⟨h2.aw,h2.ai,h2.waits,h2.apart,Nat.le_trans (List.length_filter_le _ _) h2.aV⟩
def fg.JN {s:Server} (h:fg s) {v:aE} (hc:ix s.waits v=true) (hp:placeOf s.ai v.aU<0):fg {s with waits:=fJ s.waits v}:=by
 obtain⟨h1,h2,h3⟩:=vB hc;refine⟨h.aw,h.ai,Fa h.waits h1 h2 h3,λx hx=>?_,h.aV⟩;rcases gL.1 hx with rfl|hx
 .exact hp
 exact h.apart x hx
def ab7 {l:List aE} {ds:List au}:yZ l ds=true↔∀d∈ds,∃x∈l,x.aU=d:=by
 unfold yZ;rw[Bool.not_eq_true',JF];refine forall_congr' λd=>forall_congr' λhd=>?_;rw[<-oW];unfold missing;simp
def jI {s:Server}:ij s=true↔bG s:=by
 have e1:(de s.aw.length (sR s))=true↔∀x∈s.aw,rn x=true:=by
  have e:sR s=λi=>rn (ab s.aw i):=by funext i;unfold sR;rfl
  rw[e];exact uh
 have e2:(de s.ai.length (ua s))=true↔∀x∈s.ai,(cM s x.key !=0)=true:=by
  have e:ua s=λi=>(λv:aE=>cM s v.key !=0) (ab s.ai i):=by funext i;unfold ua;rfl
  rw[e];exact uh (p:=λv:aE=>cM s v.key !=0)
 have e3:(de s.waits.length (sS s))=true↔∀x∈s.waits,ub s x=true:=by
  have e:sS s=λi=>ub s (ab s.waits i):=by funext i;unfold sS;rfl
  rw[e];exact uh
 have eu:(!(!s.up&&decide (0<s.aV.length)))=true↔(s.up=false->s.aV=[]):=by
  cases s.up<;>simp
 unfold ij tZ;simp only[Bool.and_eq_true,decide_eq_true_eq];rw[e1,e2,e3,ab7,eu];constructor
 .rintro⟨⟨⟨⟨⟨⟨⟨⟨⟨⟨a1,a2⟩,a3⟩,a4⟩,a5⟩,a6⟩,a7⟩,a8⟩,a9⟩,xv⟩,BK⟩;refine⟨a1,a2,a3,a4,a5,a6,a7,a8,λv hv=>by simpa using a9 v hv,λv hv=>?_,λv hv=>?_,λv hv=>?_,BK⟩<;>
   have:=xv v hv<;>simp only[ub,Bool.and_eq_true,decide_eq_true_eq,Rh,bne_iff_ne] at this
  .exact this.1.1
  .exact this.1.2
  exact this.2
 intro h;refine⟨⟨⟨⟨⟨⟨⟨⟨⟨⟨h.site,h.aw⟩,h.ai⟩,h.waits⟩,h.aD⟩,h.aV⟩,h.up⟩,h.aK⟩,λv hv=>by simpa using h.here v hv⟩,λv hv=>?_⟩,h.ly⟩;simp only[ub,Bool.and_eq_true,decide_eq_true_eq,Rh,bne_iff_ne];exact⟨⟨h.nZ v hv,h.n5 v hv⟩,h.apart v hv⟩
def bG.ok {s:Server} (h:bG s):fg s:=JD (jI.2 h)
def bG.xR {s:Server} (h:bG s) (hp:0<=dx s):bG (mw s (dx s).toNat):=by
 obtain⟨hl,pT,hg⟩:=vw hp;have hm:=bf hl;have an:=h.ok.xR hp;refine⟨h.site,h.aw,an.ai,an.waits,h.aD,h.aV,h.up,h.aK,λv hv=>?_,λv hv=>h.nZ v (vF hv),λv hv=>h.n5 v (vF hv),λv hv=>pP (an.apart v hv),λd hd=>P9 (h.ly d hd)⟩;rcases gL.1 hv with rfl|hv
 .exact h.nZ _ hm
 exact h.here v hv
def bG.iR:∀(n:Nat) {s:Server},bG s->bG (iR n s)
 |0,_,h=>h
 |n+1,s,h=>by
  unfold Go.Proofs.YtdanidpleofjgaaGreat.iR;split
  .exact h
  exact bG.iR n (h.xR om)
def bG.JM {s:Server} (h:bG s):bG (gZ s):=bG.iR _ h
def bG.settle {s:Server} (h:bG s):bG (dB s):=h.JM.fe
def bG.dW {s:Server} (h:bG s) (slot:Int):bG (dW s slot):=by
 have an:=h.ok.drop slot;refine⟨h.site,h.aw,an.ai,an.waits,B1 h.aD List.filter_sublist,h.aV,h.up,h.aK,λv hv=>h.here v (rD hv),λv hv=>h.nZ v (rD hv),λv hv=>h.n5 v (rD hv),
  λv hv x hx=>h.apart v (rD hv) x (rD hx),λd hd=>?_⟩
 obtain⟨h1,h2⟩:=List.mem_filter.1 hd;obtain⟨x,hx,e⟩:=h.ly d h1;refine⟨x,List.mem_filter.2 ⟨hx,?_⟩,e⟩;subst e;exact h2
def RV {s:Server} {slot:Int}:(∀v∈(Go.Proofs.YtdanidpleofjgaaGreat.dW s slot).ai,cL v.key≠slot)/\(∀v∈(Go.Proofs.YtdanidpleofjgaaGreat.dW s slot).waits,cL v.key≠slot):=by
 constructor<;>intro v hv<;>have:=(List.mem_filter.1 hv).2<;>simpa[eR] using this
def bG.wait {s:Server} (h:bG s) {v:aE} (hc:ix s.waits v=true) (hp:placeOf s.ai v.aU<0) (hf:bM v.aq.site≠bM s.site) (be:cM s v.key≠0):bG {s with waits:=fJ s.waits v}:=by
 have an:=h.ok.JN hc hp;refine⟨h.site,h.aw,h.ai,an.waits,h.aD,h.aV,h.up,h.aK,h.here,λx hx=>?_,λx hx=>?_,λx hx=>pP (an.apart x hx),h.ly⟩
 .rcases gL.1 hx with rfl|hx
  .exact be
  exact h.nZ x hx
 rcases gL.1 hx with rfl|hx
 .exact hf
 exact h.n5 x hx
def ab8 {s:Server} {m:ax} (h:bG s):bG (fL s m).1:=by
 unfold fL;split
 .rename_i hr;obtain⟨_,_,_,ho,hf⟩:=BL hr;dsimp only;split
  .rename_i hn;split
   .rename_i hc;exact(h.wait hc hn.1 hf (by rw[(xx ho).2];omega)).settle
   exact h
  exact h.settle
 exact h
def Cc {s:Server} {d:au}:gY s d=true↔∃v∈s.waits,d∈v.aQ:=by
 unfold gY;rw[Bool.not_eq_true',<-Bool.not_eq_true,uh (p:=λv=>!ry d v)];have e:∀v:aE,(!ry d v)=true↔d∉v.aQ:=λv=>by
  unfold ry;rw[Bool.not_eq_true',decide_eq_false_iff_not,oe]
 constructor
 .intro h;apply Classical.byContradiction;intro hn;exact h λx hx=>(e x).2 λhd=>hn ⟨x,hx,hd⟩
 rintro⟨v,hv,hd⟩ h;exact(e v).1 (h v hv) hd
def RW {s:Server} {m:ax} (h:bG s) (hm:bI m=true):bG (kg s m):=by
 have U:=(kJ hm).2.2.2.2.2.2.2.2;refine(h.dW m.slot).Q2 U.1.1 ?_ (λv hv e=>absurd e (RV.1 v hv)) (λv hv e=>absurd e (RV.2 v hv)) om;rw[rz];exact⟨U.2.1.1,U.2.1.2,by simp,by simp,λe=>absurd rfl e⟩
def ab9 {s:Server} {m:ax} (h:bG s) (hm:bI m=true):bG (g8 s m):=by
 unfold g8;split
 .exact(RW h hm).settle
 exact h
def RX {s:Server} {m:ax} (h:bG s) (hm:bI m=true) {o:Option aE} (ho:∀v,o=some v->dL v=true):bI (lM s m o)=true:=by
 have p:=kJ hm;exact tO ⟨by simp[lM],by simp[lM]⟩ (pI h.site) p.2.1 p.2.2.2.1 p.2.2.2.2.1 p.2.2.2.2.2.1 ⟨by simp[lM,bW],by simp[lM,bW]⟩ sP ⟨by simp[lM,bW],by simp[lM,bW]⟩ ⟨by simp[lM,bW],by simp[lM,bW]⟩ (Ri ho) pR xb
def aca {s:Server} {m:ax} (h:bG s) (hm:bI m=true):∀w∈gN s m,bI w=true:=by
 unfold gN;split
 .split
  .intro w hw;obtain rfl:w=_:=by simpa using hw
   exact RX h hm λv hv=>fi h.ai v (rv hv).1
  split
  .rename_i v hv;intro w hw;obtain rfl:w=_:=by simpa using hw
   exact RX h hm λu hu=>by cases hu;exact fi h.ai v (xK hv).1
  intro w hw;simp at hw
 intro w hw;simp at hw
def bG.small {s:Server} (h:bG s):sO s:=h.ok.small (by have:=iX h.aD;omega)
def acb {s u u2:Server} {g2:Bool} {i:Nat} (hu:fg u) (fw:gZ u=gZ s) (Fb:u.aV=s.aV) (hf:g2=false->u=u2/\i<=u.waits.length/\(u.ai.length<80->∀j,j<i->ic u (ab u.waits j)=false))
 (ht:g2=true->0<=dx u/\u2=mw u (dx u).toNat) (hb:u2.waits.length<=i\/g2=true):fg u2/\gZ u2=gZ s/\(g2=false->dx u2<0)/\u2.aV=s.aV:=by
 cases g2 with
 |true=>
  obtain⟨h1,rfl⟩:=ht rfl
  exact⟨hu.xR h1,by rw[<-P3 h1,fw],(λe=>by cases e),Fb⟩
 |false=>
  obtain⟨rfl,h1,h2⟩:=hf rfl
  have h3:u.waits.length<=i:=hb.resolve_right bk
  exact⟨hu,fw,λ_=>JE λpT j hj=>h2 pT j om,Fb⟩
def RY (s:Server) (m:ax):(decide (80<((dW s m.slot).ai.length:Int)+m.ai.length)||decide (80<((dW s m.slot).waits.length:Int)+m.waits.length)||decide (80<((dW s m.slot).aD.length:Int)+m.aD.length))=!oT s m:=by
 have e:∀a b:Nat,decide (80<(a:Int)+b)=!decide (a+b<=80):=λa b=>by rw[Bool.eq_iff_iff];simp;omega
 unfold oT;rw[e,e,e];simp
def acd {l:List aE} {v:aE} (hc:cg l=true) (hv:dL v=true) (hl:l.length<80):cg (eY l v)=true:=by
 unfold eY;split
 .rename_i hp;exact Fa hc hv hp hl
 exact hc
def JO {s:Server} {m:ax} (h:oT s m=true):(dW s m.slot).ai.length+m.ai.length<=80/\(dW s m.slot).waits.length+m.waits.length<=80/\(dW s m.slot).aD.length+m.aD.length<=80:=by
 unfold oT at h;simp only[Bool.and_eq_true,decide_eq_true_eq] at h;exact⟨h.1.1,h.1.2,h.2⟩
def RZ (s:Server) (slot:Int) (h:sO s):
 dr prog 251 [s.av,AV.int slot] [] (λ_:Value=>True) (λv=>[Own.row v 46 2 (s.aw.map cY.cells)]) (dW s slot).zq:=by
 refine dr.intro 33 func251 rfl ntmps251 rfl aS (λW I a U=>?_);obtain⟨h1,⟨h2,h3⟩,⟨h4,h5⟩,h6,h7⟩:=id h;refine bK λI a w U=>?_;refine U.alloc rfl cv dN λb4 I a w U=>?_;refine bK λI a w U=>?_;refine U.dj [] (B8 s h) (az .tt aI) rfl aN rfl λ⟨vS,vV,vW,vO,vK⟩ I a w anX U=>?_;refine U.alloc rfl cv dN λb5 I a w U=>?_;refine bB λI a w U=>?_;refine U.o (.cl (EX s.ai slot h2 h3)) λU=>?_;refine bB λI a w U=>?_;refine U.s1 6 λU=>?_;refine bm λI a w U=>?_;refine U.o (.cl (EX s.waits slot h4 h5)) λU=>?_;refine bB λI a w U=>?_;refine U.s1 6 λU=>?_;refine bm λI a w U=>?_;refine U.o (.cl (Rm s.aD slot h6)) λU=>?_;refine bB λI a w U=>?_;refine U.s1 6 λU=>?_;refine nn<|wp_seq ?_;obtain⟨I,U⟩:=U.fu 5 6 6;refine aF λI a w U=>?_;refine U.dw vS [1] rfl (.cons (.sx 0) .nil) trivial rfl rfl
def xS (s:Server) (m:ax) (i j k:Nat):Server:=
 {dW s m.slot with aw:=(dW s m.slot).aw.set m.slot.toNat ⟨m.ba,1⟩,ai:=iT (dW s m.slot).ai (m.ai.take i),waits:=iT (dW s m.slot).waits (m.waits.take j),aD:=(m.aD.take k).foldl dP (dW s m.slot).aD}
def Fc (s:Server) (m:ax) {i j k:Nat} (hi:m.ai.length<=i) (hj:m.waits.length<=j) (hk:m.aD.length<=k):xS s m i j k=iJ s m:=by
 unfold xS iJ;rw[List.take_of_length_le hi,List.take_of_length_le hj,List.take_of_length_le hk]
def R0 {l vs:List aE} (hl:cg l=true) (hv:cg vs=true) (hn:l.length+vs.length<=80):∀k,k<=vs.length->cg (iT l (vs.take k))=true
 |0,_=>by simpa[iT] using hl
 |k+1,hk=>by
  have h1:=R0 hl hv hn k om;have h2:=IY l vs k;rw[ED om];exact acd h1 (fi hv _ (bf om)) om
def ace (s:Server) (m:ax):(fT s m).2.length<=1:=by
 unfold fT;split
 .split
  .simp
  split<;>simp
 simp
def acf (s:Server) (m:ax):(gN s m).length<=1:=by
 unfold gN;split
 .split
  .simp
  split<;>simp
 simp
def acg (s:Server) (m:ax):(fL s m).2.length<=1:=by
 unfold fL;split
 .dsimp only;split
  .split<;>simp
  simp
 simp
def R1 (s:Server) (m:ax) (x:Bool):((((!decide ((dW s m.slot).ai.length+m.ai.length<=80))||!decide ((dW s m.slot).waits.length+m.waits.length<=80))||decide (80<((dW s m.slot).aD.length:Int)+m.aD.length))||!x)=!(oT s m&&x):=by
 have e:decide (80<((dW s m.slot).aD.length:Int)+m.aD.length)=!decide ((dW s m.slot).aD.length+m.aD.length<=80):=by rw[Bool.eq_iff_iff];simp;omega
 unfold oT;rw[e];simp
def ach {l:List aE} {d:au} {v:aE} (h:eE l d=some v):0<=placeOf l d/\placeOf l d<l.length/\ab l (placeOf l d).toNat=v:=by
 unfold eE at h;split at h
 .rename_i hp;have:=(zc hp).1;exact⟨hp,by omega,Option.some.inj h⟩
 cases h
def aci {s:Server} {t:Int} {v:aE} (h:v.aQ.length<=1048576):kH {bW with kind:=5,aO:=s.site,to:=t,ai:=[v]}:=⟨Nat.zero_le _,⟨by simp,λx hx=>by obtain rfl:=List.mem_singleton.1 hx;exact h⟩,⟨Nat.zero_le _,λ_ h=>by cases h⟩,Nat.zero_le _⟩
def sY (q:Call) (k:Nat):List ax:=pY q q.keys.length++((q.aL.take k).map λd=>jr q (xI d)).flatten
def acj {q:Call} {k:Nat} (h:k=q.keys.length):pY q k=sY q 0:=by subst h;simp[sY]
def R2 {q:Call} {k:Nat} (h:k<q.aL.length):sY q k++jr q (xI (ab q.aL k))=sY q (k+1):=by
 unfold sY;rw[eT h,List.map_append,List.flatten_append,List.append_assoc];simp
def R3 (q:Call):∀k,k<=q.aL.length->(sY q k).length<=2*q.keys.length+2*k
 |0,_=>by have:=Jk q q.keys.length (Nat.le_refl _);simp[sY];omega
 |k+1,h=>by
  have ih:=R3 q k om;rw[<-R2 om,List.length_append];show _+2<=_;omega
def ack {q:Call} {k:Nat} (hw:cD q=true) (hk:¬q.kind=1) (h:q.aL.length<=k):sY q k=ie q:=by
 unfold ie asks sY pY;rw[if_pos hw,if_neg hk,List.take_length,List.take_of_length_le h,List.map_append,List.flatten_append,List.map_map,List.map_map];rfl
def p5 (q:Call) (k:Nat):List ax:=((q.keys.take k).filter λk=>decide (cm q k<0)).map xF
def sZ (q:Call) (k:Nat):List ax:=p5 q q.keys.length++(q.aL.take k).map xI
def R4 {q:Call} {k:Nat} (h:k<q.keys.length) (hg:cm q (ab q.keys k)<0):p5 q k++[xF (ab q.keys k)]=p5 q (k+1):=by
 unfold p5;rw[nY h (by simpa using hg),List.map_append];rfl
def R5 {q:Call} {k:Nat} (h:k<q.keys.length) (hg:¬cm q (ab q.keys k)<0):p5 q k=p5 q (k+1):=by
 unfold p5;rw[ob h (by simpa using hg)]
def JP (q:Call):∀k,k<=q.keys.length->(p5 q k).length<=k
 |0,_=>by simp[p5]
 |k+1,h=>by
  have ih:=JP q k om;by_cases hg:cm q (ab q.keys k)<0
  .rw[<-R4 om hg,List.length_append];show _+1<=_;omega
  rw[<-R5 om hg];omega
def acm {q:Call} {k:Nat} (h:k=q.keys.length):p5 q k=sZ q 0:=by subst h;simp[sZ]
def R6 (q:Call) (k:Nat):(sZ q k).length<=q.keys.length+q.aL.length:=by
 have:=JP q _ (Nat.le_refl _);unfold sZ;rw[List.length_append,List.length_map,List.length_take];omega
section
variable {l:List Answer} {v:Answer} {k:Nat} {out:List Answer} {done:Bool}
def nG.before (hp:nG l v k false out) (h:k<l.length) (he:v.key<(ab l k).key):nG l v (k+1) true ((out++[v])++[ab l k]):=by
 refine⟨h,?_,by have:=hp.len;simp at this⊢;omega⟩;have:=hp.eq;rw[mh h] at this;simp only[c8,if_pos he] at this;rw[this];simp
def nG.step (hp:nG l v k done out) (h:k<l.length) (he:done=true\/¬v.key<(ab l k).key):nG l v (k+1) done (out++[ab l k]):=by
 refine⟨h,?_,by have:=hp.len;simp;omega⟩;have:=hp.eq;cases done
 .rw[mh h] at this;have he:¬v.key<(ab l k).key:=he.resolve_left bk;simp only[c8,if_neg he] at this;rw[this];simp
 simp only[if_true] at this⊢;rw[this,mh h];simp
def nG.um (hp:nG l v k true out) (h:l.length<=k):out=c8 l v:=by
 have:=hp.eq;rw[List.drop_eq_nil_of_le h] at this;simpa using this.symm
def nG.uq (hp:nG l v k false out) (h:l.length<=k):out++[v]=c8 l v:=by
 have:=hp.eq;rw[List.drop_eq_nil_of_le h] at this;simpa[c8] using this.symm
end
def rG (q:Call) (k:Nat):List au:=((q.aC.take k).filter λa=>!dS (bN (fR q) a.key)&&nW a (bN (fR q) a.key)).map λa=>⟨a.key,bN (fR q) a.key⟩
def acn {q:Call} {k:Nat} (h:k<q.aC.length) (hp:(!dS (bN (fR q) (ab q.aC k).key)&&nW (ab q.aC k) (bN (fR q) (ab q.aC k).key))=true):rG q k++[⟨(ab q.aC k).key,bN (fR q) (ab q.aC k).key⟩]=rG q (k+1):=by
 unfold rG;rw[nY h (by simpa using hp),List.map_append];rfl
def aco {q:Call} {k:Nat} (h:k<q.aC.length) (hp:(!dS (bN (fR q) (ab q.aC k).key)&&nW (ab q.aC k) (bN (fR q) (ab q.aC k).key))=false):rG q k=rG q (k+1):=by
 unfold rG;rw[ob h (by simpa using hp)]
def acp (q:Call) (k:Nat):(rG q k).length<=q.aC.length:=by
 unfold rG;rw[List.length_map];exact Nat.le_trans (List.length_filter_le ..) (by rw[List.length_take];omega)
def R7:∀{l:List Answer} {a:Answer} {k:Nat},k<=l.length->(∀i,i<k->(ab l i).key<a.key)->(k<l.length->¬(ab l k).key<a.key)->(∀x∈l,x.key≠a.key)->l.take k++a::l.drop k=c8 l a
 |[],a,k,h,_,_,_=>by obtain rfl:k=0:=by simpa using h
                     rfl
 |e::r,a,0,_,_,h2,h3=>by
  have h2:=h2 bk;have h3:=h3 e bk;have:a.key<e.key:=by have h4:¬e.key<a.key:=h2;omega
  unfold c8;rw[if_pos this];rfl
 |e::r,a,k+1,h,h1,h2,h3=>by
  have h0:e.key<a.key:=h1 0 om;unfold c8;rw[if_neg om];show e::(r.take k++a::r.drop k)=_;rw[R7 (by simpa using h) (λi hi=>h1 (i+1) om) (λhl=>h2 (by simpa using hl)) λx hx=>h3 x (by simp[hx])]
def nH (out:List au) (a:Answer):List au:=if a.yes then gq (iV out a.bl.aQ) a.bl.aU else out
def s9 (out:List au) (a:Answer):List au:=if a.yes then gq out ⟨a.key,a.bl.aq⟩ else out
def gO (c:Call):List au:=if c.end_=0 then c.ctx else if c.kind=1 then gq c.ctx ⟨ab c.keys 0,c.aq⟩ else c.aC.foldl nH c.ctx
def JX (c:Call):List au:=if c.end_=0 then c.ctx else if c.kind=1 then gq c.ctx ⟨ab c.keys 0,c.aq⟩ else c.aC.foldl s9 (iV c.ctx (fR c))
def Fi {c:Call} {time:Int} (h:gx c time=true):bU c.ctx=true/\(∀a∈c.aC,dT a=true)/\iu c=true/\fF c.ao=true/\1<=c.bH/\c.bH<=time:=by
 simp only[gx,mT,pN,Bool.and_eq_true] at h;have hg:nX c=true:=h.1.1.2.1.1;have hb:=h.1.1.1.1.2;simp[aH] at hb;refine⟨h.1.1.1.1.1.1.2,λa ha=>?_,h.1.1.1.1.1.1.1.1.2,h.1.1.1.1.1.1.1.1.1.1,hb.1,hb.2⟩;obtain⟨k,hk,rfl⟩:=gm ha;exact(IA hg hk).1
def JY {c:Call} {t:Int} (h:gx c t=true):gx c (c.bH+c.end_)=true:=by
 have hp:=Fi h;simp only[gx,mT,Bool.and_eq_true] at h⊢;have he:c.end_=0\/c.bH+1<=c.end_:=by
  have:=h.2;unfold oP at this;by_cases h0:c.end_=0
  .exact Or.inl h0
  rw[if_neg h0] at this;right;simp[aH] at this;omega
 have h1:aH c.bH 1 (c.bH+c.end_)=true:=by simp[aH];omega
 have h2:oP c (c.bH+c.end_)=true:=by
  have:=h.2;unfold oP at this⊢;by_cases h0:c.end_=0
  .rwa[if_pos h0] at this⊢
  rw[if_neg h0] at this⊢;have e:aH c.end_ (c.bH+1) (c.bH+c.end_)=true:=by simp[aH];omega
  have e':aH c.end_ (c.bH+1) t=true:=by
   simp[aH] at this⊢;omega
  rw[e];rwa[e'] at this
 exact⟨⟨⟨⟨⟨h.1.1.1.1.1,h1⟩,h.1.1.1.2⟩,h.1.1.2⟩,h.1.2⟩,h2⟩
def fj (s:Server) (m:ax):Server×List ax:=
 if(m.aO==eX s.site)&&decide (1<=m.ba) then
  if m.ba<=(ab s.aw m.slot.toNat).ba then(s,[mV s m])
  else if oT s m&&ij (iJ s m) then(dB (iJ s m),[mV s m]) else(s,[])
 else(s,[])
def iL (w:aj) (m:ax):aj:=
 let i:=bY w.calls (m.to-10)
 if i<0 then w else
  let q:=cP (ab w.calls i.toNat) m w.time
  let w1:={w with calls:=w.calls.set i.toNat q}
  if 0<q.end_ then{w1 with seen:=w.seen.set (m.to-10).toNat (gO q)} else w1
def JZ (l:List au) (d:au) (hl:bU l=true) (hd:lK d=true):
 Fn prog 133 [bE l,d.av] (bE (gq l d)):=by
 refine Fn.go 85 func133 ntmps133 (λW I a U=>?_);have Ch:=iE hl;have Fj:=ZF d;refine sr<|U.box rfl .tt λb3 I a w U=>?_;refine aG λI a w U=>?_;refine U.o (.cl (sH ..)) λU=>?_;refine bm λI a w U=>?_;refine U.q .F (.li [_] iQ (.u .nil)) λU=>?_;refine U.q .F (.cl (sH [d])) λU=>?_;refine aF λI a w U=>?_;refine U.cd (λae=>?_) λae=>?_
 .exfalso;rw[hl,Fj,hd] at ae;cases ae;skip
 refine zt ?_;refine U.l0 λSk I a w U=>?_;refine aR λI a w U=>?_;refine St.lo (σ:=Nat×Bool×List au×Value×au) (run 3 5 (run 59 19 [])) ⟨λ⟨k,done,out,v,e⟩=>[(7,AV.int k),(6,AV.bool done),(5,AV.val v)],λ⟨k,done,out,v,e⟩=>[Own.box b3 115 e.cells,Own.row v 115 3 (out.map au.cells)],λ⟨k,done,out,v,e⟩=>lB l d k done out/\e.key=d.key/\(done=false->e=d)⟩ (λ⟨k,done,out,v,e⟩=>l.length-k) (0,false,[],.slice (some ⟨Sk,0,none⟩) 0 0,d) U ?aJ ?bF;case aJ=>exact⟨lB.zero l d,rfl,λ_=>rfl⟩
 rintro⟨k,done,out,v,e⟩ I a w an U;obtain⟨hp,lD,Cj⟩:=an;have hk:=hp.hk;have kW:=hp.len;have ss:done.toNat<=1:=by cases done<;>simp
 dsimp only at U;refine aZ λI a w U=>?_;refine cz (λah=>?_) λah=>?_
 .refine aB λI a w U=>?_;refine cz (λar=>?_) λar=>?_
  .refine wp_seq<|wp_seq<|U.dk ?_;refine pC ?_;refine .q .T (GO 0 mP .ag rfl rfl rfl) ?_;refine gF ?_;refine .q .T (.cl (yS ..)) ?_;refine bJ ?_;refine .nil ?_;intro I a w U;refine bj ?_;refine cz (λaM=>?_) λaM=>?_
   .refine gT λI a w U=>?_;refine U.o (.li [(ab l k).cells] iQ (.u .nil)) λU=>?_;refine U.ap 1 λJ0 a w U=>?_;rw[cF] at U;refine aR λI a w U=>?_;refine OB (λaP=>?_) λaP=>?_
    .exfalso;simp at aP;skip
    refine aR λI a w U=>?_;exact U.ag (k+1,true,out++[ab l k],J0,ab l k) (by obtain⟨h1,h2⟩:=ar;obtain rfl:=Cj h1;subst h1;have h:=(hp.same hl ah aM.1).2;rw[<-PU _ _ aM.1,if_pos aM.2] at h;exact⟨h,aM.1,λh=>by cases h⟩)
   refine aG λI a w U=>?_;refine U.o (.li [e.cells] iQ (.u .nil)) λU=>?_;refine U.ap 1 λJ0 a w U=>?_;rw[cF] at U;refine aR λI a w U=>?_;refine cz (λbx=>?_) λbx=>?_
   .refine cj λI a w U=>?_;refine U.o (.li [(ab l k).cells] iQ (.u .nil)) λU=>?_;refine U.ap 1 λJ1 a w U=>?_;rw[cF] at U;refine aZ λI a w U=>?_;exact U.ag (k+1,true,(out++[e])++[ab l k],J1,e) (by obtain⟨h1,h2⟩:=ar;obtain rfl:=Cj h1;subst h1;exact⟨hp.before hl ah om,rfl,λh=>by cases h⟩)
   refine aR λI a w U=>?_;exact U.ag (k+1,true,out++[e],J0,e) (by obtain⟨h1,h2⟩:=ar;obtain rfl:=Cj h1;subst h1;have h:=(hp.same hl ah bx).2;rw[<-PU _ _ bx,if_neg (by rcases aM with h4|h4;exact absurd bx h4;rw[h4];simp)] at h;exact⟨h,rfl,λh=>by cases h⟩)
  refine aB λI a w U=>?_;refine px (λbt=>?_) λbt=>?_
  .refine cj λI a w U=>?_;refine U.o (.li [(ab l k).cells] iQ (.u .nil)) λU=>?_;refine U.ap 1 λJ1 a w U=>?_;rw[cF] at U;refine aZ λI a w U=>?_;exact U.ag (k+1,done,out++[ab l k],J1,e) (⟨hp.step ah om λhd=>by(rcases ar with h|h;(rw[hd] at h;cases h);omega),lD,Cj⟩)
  exfalso;simp only[bne_eq_false_iff_eq] at bt;rcases ar with h|h;(have:=hp.late h k (Nat.le_refl _) ah;omega);omega
  skip
 refine zt ?_;refine aF λI a w U=>?_;refine cz (λcE=>?_) λcE=>?_
 .refine aG λI a w U=>?_;refine U.o (.li [e.cells] iQ (.u .nil)) λU=>?_;refine U.ap 1 λSl a w U=>?_;rw[cF] at U;refine aR λI a w U=>?_;obtain⟨I,U⟩:=U.fr 1 4;refine U.rt ?_;exact congrArg (AV.rows 3) (by obtain rfl:=Cj cE;subst cE;exact hp.uq om▸rfl)
 refine aF λI a w U=>?_;obtain⟨I,U⟩:=U.fr 1 4;refine U.rt ?_;exact congrArg (AV.rows 3) (by subst cE;rw[hp.um om])
def J2 (x y:List au) (hx:bU x=true) (hy:bU y=true):
 Fn prog 217 [bE x,bE y] (bE (iV x y)):=by
 refine Fn.go 32 func217 ntmps217 (λW I a U=>?_);have Ch:=iE hx;have acD:=iE hy;refine aG λI a w U=>?_;refine U.o (.cl (sH ..)) λU=>?_;refine bm λI a w U=>?_;refine U.q .F (.cl (sH ..)) λU=>?_;refine aF λI a w U=>?_;refine U.cd (λae=>?_) λae=>?_
 .exfalso;rw[hx,hy] at ae;cases ae;skip
 refine zt ?_;refine U.l0 λBV I a w U=>?_;refine U.m λU=>?_;refine U.ap 0 λRA a w U=>?_;obtain⟨I,U⟩:=U.fr 0 18;have U:=U.drop 0;refine aF λI a w U=>?_;refine St.lo (σ:=Nat) (run 2 5 (run 12 19 [])) ⟨λk=>[(6,AV.int k),(5,bE (iV x (y.take k)))],λk=>[],λk=>k<=y.length⟩ (λk=>y.length-k) 0 U ?aJ ?bF;case aJ=>exact Nat.zero_le _
 rintro k I a w an U;have hk:k<=y.length:=an;refine aZ λI a w U=>?_;refine cz (λah=>?_) λah=>?_
 .refine cj λI a w U=>?_;refine U.o (.cl (JZ _ _ (QI hx hy k) (pK hy (bf ah)))) λU=>?_;refine aZ λI a w U=>?_;refine U.again (k+1) ?iG ?iH eA ?iI (by repeat(first|exact Env.le_rfl|refine Env.ja rfl ?_));case iG=>omega
  case iH=>exact ah
  case iI=>exact(Env.dK rfl eA (Env.dK rfl (by exact congrArg bE (by rw[QH ah])) Env.le_nil))
 refine zt ?_;refine dG ?_;exact congrArg bE (by rw[List.take_of_length_le om])
def acJ {q:Call} {t:Int} (h:gx q t=true) (hk:q.kind=1) (he:¬q.end_=0):lK ⟨ab q.keys 0,q.aq⟩=true:=by
 have hp:=Fi h;have fQ:lj q.keys=true:=by have:=hp.2.2.1;unfold iu at this;rw[Bool.and_eq_true] at this;exact this.1
 have h1:=y6 fQ (bf (xg hp.2.2.1 hk));simp only[gx,mT,Bool.and_eq_true] at h;have be:lU q.aq=true:=h.1.1.1.2;have p6:=h.2;unfold oP at p6;rw[if_neg he] at p6;simp[hk] at p6;simp only[lU,p6.2,Bool.false_or] at be;simp[lK,h1,be]
def acK (s:Server) (h:sO s):
 dr prog 84 [s.av] [] (λ_:Value=>True) (λv=>[Own.row v 46 2 (s.aw.map cY.cells)]) s.zq:=by
 refine dr.intro 27 func84 rfl ntmps84 rfl aS (λW I a U=>?_);obtain⟨h1,⟨h2,h3⟩,⟨h4,h5⟩,h6,h7⟩:=h;refine sr<|U.box rfl .tt λb1 I a w U=>U.alloc rfl cv dN λb2 I a w U=>?_;refine zt ?_;refine U.l0 λb3 I a w U=>?_;refine aG λI a w U=>?_;refine U.ap 2 λv6 a w U=>?_;refine U.o .fv λU=>?_;try have ho6:=U.ff 2 rfl
 refine bm λI a w U=>?_;refine U.o (.cl (xG s.ai h2 h3)) λU=>?_;refine bB λI a w U=>?_;refine U.o (.cl (xG s.waits h4 h5)) λU=>?_;refine aF λI a w U=>?_;refine U.l0 λBV I a w U=>?_;refine aG λI a w U=>?_;refine U.ap 3 λrE a w U=>?_;obtain⟨I,U⟩:=U.fr 3 19;refine U.o .fv λU=>?_;try have abt:=U.ff 3 rfl
 refine aB λI a w U=>?_;refine U.l0 λB5 I a w U=>?_;refine aG λI a w U=>?_;refine U.ap 4 λB3 a w U=>?_;obtain⟨I,U⟩:=U.fr 4 24;refine U.o .fv λU=>?_;try have acL:=U.ff 4 rfl
 refine aR λI a w U=>?_;exact U.dw v6 [2] rfl (.cons (.s 1 cv rfl rfl (by first|rfl|assumption)) .nil) trivial rfl rfl
def J3 (l:List au) (d:au) (h:l.length<=1048575):
 Fn prog 223 [bE l,d.av] (bE (dP l d)):=by
 refine Fn.go 72 func223 ntmps223 (λW I a U=>?_);refine bB λI a w U=>?_;refine U.o (.cl (BT ..)) λU=>?_;refine aB λI a w U=>?_;refine cz (λae=>?_) λae=>?_
 .refine zt ?_;refine U.l0 λxQ I a w U=>?_;refine U.m λU=>?_;refine U.ap 0 λmC a w U=>?_;obtain⟨I,U⟩:=U.fr 0 14;refine bh ?_;exact congrArg (AV.rows 3) (by unfold dP;rw[if_pos ae];rfl)
 refine zt ?_;refine U.l0 λJ4 I a w U=>?_;refine aR λI a w U=>?_;refine St.lo (σ:=Nat×Bool×List au×Value) (run 3 5 (run 49 16 [])) ⟨λ⟨k,done,out,u⟩=>[(7,AV.int k),(6,AV.bool done),(5,AV.val u)],λ⟨k,done,out,u⟩=>[Own.row u 115 3 (out.map au.cells)],λ⟨k,done,out,u⟩=>nA l d k done out⟩ (λ⟨k,done,out,u⟩=>l.length-k) (0,false,[],.slice (some ⟨J4,0,none⟩) 0 0) U ?aJ ?bF;case aJ=>exact nA.zero l d
 rintro⟨k,done,out,u⟩ I a w an U;have hp:nA l d k done out:=an;have hk:=hp.hk;have kW:=hp.len;have ss:done.toNat<=1:=by cases done<;>simp
 dsimp only at U;refine aZ λI a w U=>?_;refine cz (λah=>?_) λah=>?_
 .refine zt ?_;refine U.dk ?_;refine nT ?_;refine DR ?_;refine .q .T2 (.cl (yS ..)) ?_;refine dD ?_;refine .nil ?_;intro I a w U;refine bj ?_;refine U.cd (λar=>?_) λar=>?_
  .rw[Qt] at ar;simp only[B] at ar;refine aG λI a w U=>?_;refine U.o (.li [d.cells] iQ (.u .nil)) λU=>?_;refine U.ap 0 λv57 a w U=>?_;rw[cF] at U;refine gT λI a w U=>?_;refine U.o (.li [(ab l k).cells] iQ (.u .nil)) λU=>?_;refine U.ap 0 λJ5 a w U=>?_;rw[cF] at U;refine aZ λI a w U=>?_;exact U.ag (k+1,true,(out++[d])++[ab l k],J5) (by obtain⟨h1,h2⟩:=ar;subst h1;exact hp.before ah h2)
  rw[Qt] at ar;simp only[B] at ar;refine cj λI a w U=>?_;refine U.o (.li [(ab l k).cells] iQ (.u .nil)) λU=>?_;refine U.ap 0 λJ5 a w U=>?_;rw[cF] at U;refine aZ λI a w U=>?_;exact U.ag (k+1,done,out++[ab l k],J5) (hp.step ah (by simpa using ar))
 refine zt ?_;refine aF λI a w U=>?_;refine cz (λaM=>?_) λaM=>?_
 .refine aG λI a w U=>?_;refine U.o (.li [d.cells] iQ (.u .nil)) λU=>?_;refine U.ap 0 λv70 a w U=>?_;rw[cF] at U;refine aR λI a w U=>?_;obtain⟨I,U⟩:=U.fr 0 4;refine U.rt ?_;exact congrArg (AV.rows 3) (by subst aM;unfold dP;rw[if_neg om];exact hp.uq om▸rfl)
 refine aF λI a w U=>?_;obtain⟨I,U⟩:=U.fr 0 4;refine U.rt ?_;exact congrArg (AV.rows 3) (by subst aM;unfold dP;rw[if_neg om,hp.um om])
def Sm {s:Server} {m:ax} (h:bG s):bG (iS s m):=by
 unfold iS;split
 .exact⟨h.site,h.aw,h.ai,h.waits,B1 h.aD (xu _ _),h.aV,h.up,h.aK,h.here,h.nZ,h.n5,h.apart,λd hd=>h.ly d (vF hd)⟩
 exact h
def acM {s:Server} {m:ax} (h:bG s) (hm:bI m=true):∀w∈(fL s m).2,bI w=true:=by
 unfold fL;split
 .rename_i hr;have hv:dL (ab m.ai 0)=true:=fi (mW hm).1 _ (bf (by rw[(BL hr).2.2.1];omega));dsimp only;split
  .split
   .intro w hw;obtain rfl:w=_:=by simpa using hw
    exact Q4 h hm hv
   intro w hw;simp at hw
  intro w hw;obtain rfl:w=_:=by simpa using hw
  exact Q4 h hm hv
 intro w hw;simp at hw
def acN {s:Server} {m:ax} (h:bG s) (hm:bI m=true):∀w∈(fj s m).2,bI w=true:=by
 unfold fj;split
 .split
  .intro w hw;obtain rfl:w=_:=by simpa using hw
   exact QP h hm
  split
  .intro w hw;obtain rfl:w=_:=by simpa using hw
   exact QP h hm
  intro w hw;simp at hw
 intro w hw;simp at hw
def Fk {s:Server} (h:bG s) {slot:Int} (h0:0<=slot) (h2:slot<=2):bI (fS s slot)=true:=by
 have hr:=abP h (i:=slot.toNat) om;exact tO ⟨by simp[fS],by simp[fS]⟩ (pI h.site) (pI (QO h.site)) ⟨by simp[fS,bW],by simp[fS,bW]⟩ Ii BE ⟨by simp[fS,bW],by simp[fS,bW]⟩ sP ⟨h0,h2⟩ hr (xJ h.ai List.filter_sublist) (xJ h.waits List.filter_sublist) (B1 h.aD List.filter_sublist)
def acO {s:Server} (h:bG s) {d:au}:∀w∈jt s d,bI w=true:=by
 have U:=sU h.site;have key:∀k:Int,0<=k->k<=1->bI {bW with kind:=5,aO:=s.site,to:=2-2*bM s.site+k,ai:=(eE s.ai d).toList}=true:=λk h1 h2=>
  tO ⟨by simp,by simp⟩ (pI h.site) (pI (iF.2 ⟨by simp;omega,by simp;omega⟩)) ⟨by simp[bW],by simp[bW]⟩ Ii BE ⟨by simp[bW],by simp[bW]⟩ sP ⟨by simp[bW],by simp[bW]⟩ ⟨by simp[bW],by simp[bW]⟩ (Ri λv hv=>fi h.ai v (xK hv).1) pR xb
 unfold jt;split
 .intro w hw;rcases List.mem_cons.1 hw with rfl|hw
  .have:=key 0 om om;rwa[Int.add_zero] at this
  obtain rfl:w=_:=by simpa using hw
  exact key 1 om om
 intro w hw;simp at hw
def Fl {s:Server} (h:bG s):∀w∈gy s,bI w=true:=by
 unfold gy;split
 .intro w hw;rcases List.mem_append.1 hw with hw|hw
  .rcases List.mem_append.1 hw with hw|hw
   .obtain⟨i,hi,rfl⟩:=List.mem_map.1 hw;have:=QQ h hi;exact Fk h om om
   obtain⟨ws,h1,h2⟩:=List.mem_flatten.1 hw;obtain⟨d,_,rfl⟩:=List.mem_map.1 h1;exact acO h w h2
  obtain⟨d,hd,rfl⟩:=List.mem_map.1 hw;exact aaY h (aa6 h d hd)
 intro w hw;simp at hw
def acP (s:Server) (m:ax):(fL s m).1.site=s.site:=by
 unfold fL;split
 .dsimp only;split
  .split
   .exact ze _
   rfl
  exact ze _
 rfl
def Sn:∀{l:List au} {d:au} {k:Nat},k<=l.length->(∀i,i<k->eD (ab l i) d=true)->(k<l.length->eD (ab l k) d=false)->(∀x∈l,x≠d)->l.take k++d::l.drop k=lC l d
 |[],d,k,hk,_,_,_=>by obtain rfl:k=0:=by simpa using hk
                      rfl
 |e::r,d,0,_,_,hn,aX=>by
  have h1:eD e d=false:=hn bk;have h2:eD d e=true:=by
   cases h3:eD d e
   .exact absurd (EM h1 h3) (aX e bk)
   rfl
  simp[lC,h2]
 |e::r,d,k+1,hk,h,hn,aX=>by
  have h2:eD d e=false:=abQ (h 0 om);have ih:=Sn (l:=r) (d:=d) (k:=k) (by simpa using hk) (λi hi=>h (i+1) om) (λhl=>hn (by simpa using hl)) (λx hx=>aX x (by simp[hx]));simp[lC,h2,ih]
def acQ (s:Server) (d:au):
 Fn prog 247 [s.av,d.av] (AV.bool (gY s d)):=by
 refine Fn.go 9 func247 ntmps247 (λW I a U=>?_);refine cj λI a w U=>?_;refine U.o (oD (az .tt aI)) λU=>?_;refine U.o (.cl (Rs s.waits (ry d) _ (λv _=>Fn.val (Rl v d)))) λU=>?_;refine bh ?_;exact bP (by unfold gY;rw[<-B7];simp)
def J6 (l:List au) (d:au) (h:l.length<=1048575):
 Fn prog 248 [bE l,d.av] (bE (dP l d)):=by
 refine Fn.go 31 func248 ntmps248 (λW I a U=>?_);refine bB λI a w U=>?_;refine U.o (.cl (B2 ..)) λU=>?_;refine zt ?_;refine cz (λae=>?_) λae=>?_
 .refine bK λI a w U=>?_;refine U.o (bT (tX l om) (az .r aI)) λU=>?_;refine bh ?_;exact congrArg (AV.rows 3) (by unfold dP;rw[if_pos ae])
 refine aB λI a w U=>?_;refine St.lo (σ:=Nat) (5::(run 14 11 [])) ⟨λk=>[(5,AV.int k)],λk=>[],λk=>k<=l.length/\∀i,i<k->eD (ab l i) d=true⟩ (λk=>l.length-k) 0 U ?aJ ?bF;case aJ=>exact⟨Nat.zero_le _,λi hi=>by omega⟩
 rintro k I a w an U;obtain⟨hk,aT⟩:=an;refine wp_seq<|wp_seq<|U.dk ?_;refine pC ?_;refine .q .T (.cl (Eo ..)) ?_;refine bJ ?_;refine .nil ?_;intro I a w U;refine bj ?_;refine cz (λah=>?_) λah=>?_
 .refine aR λI a w U=>?_;exact U.ag (k+1) (⟨by omega,λi h1=>by rcases Nat.lt_succ_iff_lt_or_eq.1 h1 with h|h;exact aT i h;rw[h];exact ah.2⟩)
 refine zt ?_;refine U.da 5 ?_;simp only[TD];refine bJ ?_;refine gJ.pt (Ez l om) (az .r aI) ?_;refine cB ?_;refine .o (.li [d.cells] iQ (.u .nil)) ?_;refine .nil ?_;intro I a w U;obtain⟨xT,U⟩:=U.DK (d:=26);refine U.fm [0] (abd _ (l.map au.cells) d.cells k (by rw[List.length_map];exact hk) ko (λr hr=>by obtain⟨u,_,rfl⟩:=List.mem_map.1 hr;rfl) rfl) (az .tt (az .tt (az .tt aI))) rfl aN rfl λI a w U=>?_;refine bh ?_;exact congrArg (AV.rows 3) (by unfold dP;rw[if_neg om,<-Sn hk aT (λhl=>by rcases ah with h|h;omega;exact h) (RF ae),List.map_append,List.map_cons,List.map_take,List.map_drop])
def acR (s:Server) (d:au) (x:AV):
 Fn prog 247 [s.avK x,d.av] (AV.bool (gY s d)):=by
 refine Fn.go 9 func247 ntmps247 (λW I a U=>?_);refine cj λI a w U=>?_;refine U.o (oD (az .tt aI)) λU=>?_;refine U.o (.cl (Rs s.waits (ry d) _ (λv _=>Fn.val (Rl v d)))) λU=>?_;refine bh ?_;exact bP (by unfold gY;rw[<-B7];simp)
def acS (b:Nat) (s:Server) (x:AV) (d:au):
 jC prog 265 [d.av,AV.val (.pointer (some ⟨b,0,none⟩))] [Own.box b 43 [AV.int s.site,AV.bool s.up,su s.aw,cn s.ai,cn s.waits,bE s.aD,x]] [Own.box b 43 [AV.int s.site,AV.bool s.up,su s.aw,cn s.ai,cn s.waits,bE s.aD,x]] (AV.bool (!gY s d)):=by
 refine jC.intro 8 func265 rfl ntmps265 rfl aS (λW I a U=>?_);refine bB λI a w U=>?_;refine U.o (.c2 (acR s d x)) λU=>?_;refine aF λI a w U=>?_;refine U.dw () [0] rfl (.cons (.t rfl) .nil) trivial rfl rfl
def acT {l ds:List au} {k:Nat} (hn:l.length+ds.length<=80) (hk:k<ds.length):Fn prog 223 [bE ((ds.take k).foldl dP l),(ab ds k).av] (bE ((ds.take (k+1)).foldl dP l)):=by
 have h2:=Q8 l ds k;have:=J3 ((ds.take k).foldl dP l) (ab ds k) om;rwa[<-Q6 hk] at this
def acU {s:Server} {m:ax} (h:((m.aO==eX s.site)&&decide (1<=m.ba))=false):fj s m=(s,[]):=by unfold fj;rw[h];rfl
def So {s:Server} {m:ax} (h:((m.aO==eX s.site)&&decide (1<=m.ba))=true) (h2:m.ba<=(ab s.aw m.slot.toNat).ba):fj s m=(s,[mV s m]):=by unfold fj;rw[h,if_pos rfl,if_pos h2]
def J7 {s:Server} {m:ax} (h:((m.aO==eX s.site)&&decide (1<=m.ba))=true) (h2:¬m.ba<=(ab s.aw m.slot.toNat).ba) (h3:(oT s m&&ij (iJ s m))=false):fj s m=(s,[]):=by unfold fj;rw[h,if_pos rfl,if_neg h2,h3];rfl
def Sp {s:Server} {m:ax} (h:((m.aO==eX s.site)&&decide (1<=m.ba))=true) (h2:¬m.ba<=(ab s.aw m.slot.toNat).ba) (h3:(oT s m&&ij (iJ s m))=true):fj s m=(dB (iJ s m),[mV s m]):=by unfold fj;rw[h,if_pos rfl,if_neg h2,h3];rfl
def acV (s:Server) (m:ax):(fj s m).2.length<=1:=by
 unfold fj;split
 .split
  .simp
  split<;>simp
 simp
def Sq {s:Server} (hg:bG s):(gy s).length<=1000:=by
 by_cases hu:s.up=true
 .have h1:=zG s s.aD.length (Nat.le_refl _);have h2:=iX hg.aD;have h3:=zH (s:=s) (λv hv=>iE (iW (fi hg.waits v hv)).2.2) s.waits.length (Nat.le_refl _);have h4:=g0 hg.waits;rw[I5 s (Nat.le_refl _)] at h3;rw[<-JH hu hg.aw];unfold og;rw[List.length_append,List.length_map];omega
 unfold gy;rw[if_neg hu];simp
def acW {s:Server} (h:bG s) {d:au} (hd:d∈s.aD):c7 d.key=true:=by
 have:=(vE.1 h.aD).2.1 d hd;unfold ka at this;simp only[Bool.and_eq_true] at this;exact this.1
def Sr {q:Call} {t:Int} (h:gx q (q.bH+q.end_)=true) (he:0<=q.end_):(!gx q (q.bH+q.end_)||decide (0<q.end_)||q.over)=!cD q:=by
 rw[h];unfold cD;have e:decide (0<q.end_)=!(q.end_==0):=by rw[Bool.eq_iff_iff];simp;omega
 rw[e];simp
def oZ (q:Call) (k:Nat):List ax:=(((asks q).take k).map (jr q)).flatten
def J8 (q:Call):∀k,k<=(asks q).length->(oZ q k).length=2*k
 |0,_=>by simp[oZ]
 |k+1,h=>by
  have ih:=J8 q k om;unfold oZ at ih⊢;rw[eT om,List.map_append,List.flatten_append,List.length_append,ih];rfl
def acX {q:Call} {k i:Nat} (h:k<(asks q).length) (hi:2<=i):oZ q k++(jr q (ab (asks q) k)).take i=oZ q (k+1):=by
 unfold oZ;rw[List.take_of_length_le (l:=jr _ _) (by simpa[jr] using hi),eT h,List.map_append,List.flatten_append];simp
def acY (q:Call) (n:Value) (key:Int):
 Fn prog 200 [q.yV n,AV.int key] (AV.int (cm q key)):=by
 refine Fn.go 9 func200 ntmps200 (λW I a U=>?_);refine bK λI a w U=>?_;refine U.o (yr .tt (by first|exact lG rfl|exact lQ|exact lR|exact lV)) λU=>?_;refine bm λI a w U=>?_;refine U.o (oD (az .tt aI)) λU=>?_;refine U.o (.cl (Qm q.aC (tT key) _ (λv _=>Fn.val (Px v key)))) λU=>?_;refine bh ?_;rfl
def iY (w:aj) (e:Ev):List ax:=if e.kind=5\/e.fe=0 then w.al.take e.word.toNat++w.al.drop (e.word.toNat+1) else w.al
def Sf (n:Int) (hn:kv n):
 Fn prog 114 [AV.int n] (AV.bool (kb n)):=by
 refine Fn.go 10 func114 ntmps114 (λW I a U=>?_);refine aG λI a w U=>?_;refine U.o (.c1 (tQ ..)) λU=>?_;refine aG λI a w U=>?_;refine U.q .F (VX (.g rfl (λh=>h)) .c) λU=>?_;refine U.q .F (.cl (Bx ..)) λU=>?_;refine dG ?_;exact bP (by rw[ZD hn,ZX];rfl)
def acC {c:Call} {t t':Int} (h:gx c t=true) (ht:t<=t'):gx c t'=true:=by
 simp only[gx,mT,Bool.and_eq_true] at h⊢;have h1:aH c.bH 1 t'=true:=by
  have:=h.1.1.1.1.2;simp[aH] at this⊢;omega
 have h2:oP c t'=true:=by
  have:=h.2;unfold oP at this⊢;split
  .rename_i he;rwa[if_pos he] at this
  rename_i he;rw[if_neg he] at this;have e:aH c.end_ (c.bH+1) t'=true:=by
   simp[aH] at this⊢;omega
  have e':aH c.end_ (c.bH+1) t=true:=by
   simp[aH] at this⊢;omega
  rw[e];rwa[e'] at this
 exact⟨⟨⟨⟨⟨h.1.1.1.1.1,h1⟩,h.1.1.1.2⟩,h.1.1.2⟩,h.1.2⟩,h2⟩
def JV (l:List au) (d:au) (hl:bU l=true):
 Fn prog 232 [bE l,d.av] (bE (gq l d)):=by
 refine Fn.go 53 func232 ntmps232 (λW I a U=>?_);have Ch:=iE hl;have U:=U.hP (sz:=3) 115;refine jD λI a w U=>?_;refine St.lo (σ:=Nat×Bool×List au×Value) (run 2 5 (8::(run 35 11 []))) ⟨λ⟨k,done,out,v⟩=>[(11,AV.int k),(6,AV.bool done),(5,AV.val v)],λ⟨k,done,out,v⟩=>[Own.row v 115 3 (out.map au.cells)],λ⟨k,done,out,v⟩=>lB l d k done out⟩ (λ⟨k,done,out,v⟩=>l.length-k) (0,false,[],.slice none 0 0) U ?aJ ?bF;case aJ=>exact lB.zero l d
 rintro⟨k,done,out,v⟩ I a w an U;have hp:lB l d k done out:=an;have hk:=hp.hk;have kW:=hp.len;have ss:done.toNat<=1:=by cases done<;>simp
 dsimp only at U;refine aB λI a w U=>?_;refine cz (λae=>?_) λae=>?_
 .refine aG λI a w U=>?_;refine U.alloc rfl cV gK λb8 I a w U=>?_;refine jD λI a w U=>?_;refine cz (λah=>?_) λah=>?_
  .refine bB λI a w U=>?_;refine U.o (.c2 (En ..)) λU=>?_;refine zt ?_;refine cz (λar=>?_) λar=>?_
   .refine cj λI a w U=>?_;refine U.o (.li [d.cells] iQ (.u .nil)) λU=>?_;refine U.ap 0 λvH a w U=>?_;rw[cF] at U;refine aR λI a w U=>?_;have U:=U.drop 1;exact U.ag (k+1,true,out++[d],vH) (by have h:=(hp.same hl ae ah).2;rw[ar,if_pos rfl] at h;exact h)
   refine bm λI a w U=>?_;refine U.o (.li [(ab l k).cells] iQ (.u .nil)) λU=>?_;refine U.ap 0 λvH a w U=>?_;rw[cF] at U;refine aR λI a w U=>?_;have U:=U.drop 1;exact U.ag (k+1,true,out++[ab l k],vH) (by have h:=(hp.same hl ae ah).2;rw[ar] at h;exact h)
  refine wX λI a w U=>?_;refine cz (λaM=>?_) λaM=>?_
  .refine aG λI a w U=>?_;refine U.o (.li [d.cells] iQ (.u .nil)) λU=>?_;refine U.ap 0 λSg a w U=>?_;rw[cF] at U;refine bB λI a w U=>?_;refine U.o (.li [(ab l k).cells] iQ (.u .nil)) λU=>?_;refine U.ap 0 λvH a w U=>?_;rw[cF] at U;refine aR λI a w U=>?_;have U:=U.drop 1;exact U.ag (k+1,true,(out++[d])++[ab l k],vH) (by obtain⟨h1,h2⟩:=aM;subst h2;exact hp.before hl ae h1)
  refine aG λI a w U=>?_;refine U.o (.li [(ab l k).cells] iQ (.u .nil)) λU=>?_;refine U.ap 0 λvH a w U=>?_;rw[cF] at U;refine aR λI a w U=>?_;have U:=U.drop 1;exact U.ag (k+1,done,out++[ab l k],vH) (hp.step ae ah λhd=>by rcases aM with h|h;exact h;rw[hd] at h;cases h)
 refine zt ?_;refine aF λI a w U=>?_;refine cz (λaP=>?_) λaP=>?_
 .refine aG λI a w U=>?_;refine U.o (.li [d.cells] iQ (.u .nil)) λU=>?_;refine U.ap 0 λv51 a w U=>?_;rw[cF] at U;refine aR λI a w U=>?_;obtain⟨I,U⟩:=U.fr 0 4;refine U.rt ?_;exact congrArg (AV.rows 3) (by subst aP;exact hp.uq om▸rfl)
 refine aF λI a w U=>?_;obtain⟨I,U⟩:=U.fr 0 4;refine U.rt ?_;exact congrArg (AV.rows 3) (by subst aP;rw[hp.um om])
def Sh (x y:List au) (hx:bU x=true) (hy:bU y=true):
 Fn prog 233 [bE x,bE y] (bE (iV x y)):=by
 refine Fn.go 21 func233 ntmps233 (λW I a U=>?_);have Ch:=iE hx;have acD:=iE hy;refine aG λI a w U=>?_;refine U.o (bT (tX x om) (az .r aI)) λU=>?_;refine aZ λI a w U=>?_;refine St.lo (σ:=Nat) (5::(7::(run 8 12 []))) ⟨λk=>[(12,AV.int k),(5,bE (iV x (y.take k)))],λk=>[],λk=>k<=y.length⟩ (λk=>y.length-k) 0 U ?aJ ?bF;case aJ=>exact Nat.zero_le _
 rintro k I a w an U;have hk:k<=y.length:=an;refine aB λI a w U=>?_;refine cz (λae=>?_) λae=>?_
 .refine aG λI a w U=>?_;refine U.alloc rfl cV gK λb7 I a w U=>?_;refine aB λI a w U=>?_;obtain⟨I,U⟩:=U.fb 0 7;refine aG λI a w U=>?_;refine U.o (.cl (JV _ _ (QI hx hy k))) λU=>?_;refine aR λI a w U=>?_;have U:=U.drop 0;refine U.again (k+1) ?iG ?iH eA ?iI (by repeat(first|exact Env.le_rfl|refine Env.ja rfl ?_));case iG=>omega
  case iH=>exact ae
  case iI=>exact(Env.dK rfl eA (Env.dK rfl (by exact congrArg bE (by rw[QH ae])) Env.le_nil))
 refine zt ?_;refine dG ?_;exact congrArg bE (by rw[List.take_of_length_le om])
def acE (l:List au) (key:Int):
 Fn prog 269 [bE l,AV.int key] ((bN l key).av):=by
 refine Fn.go 21 func269 ntmps269 (λW I a U=>?_);have hle:=U.eC (t:=0) rfl;refine sr<|U.alloc rfl mP ke λb4 I a w U=>?_;refine aR λI a w U=>?_;refine St.lo (σ:=Nat) (6::(run 11 9 [])) ⟨λk=>[(9,AV.int k)],λk=>[Own.box b4 50 [AV.val (.int .i64 0),AV.val (.int .i64 0)]],λk=>k<=l.length/\∀i,i<k->pF key (ab l i)=false⟩ (λk=>l.length-k) 0 U ?aJ ?bF;case aJ=>exact⟨Nat.zero_le _,λi hi=>by omega⟩
 rintro k I a w an U;obtain⟨hk,aT⟩:=an;refine aB λI a w U=>?_;refine cz (λae=>?_) λae=>?_
 .refine aG λI a w U=>?_;refine U.alloc rfl cV gK λb6 I a w U=>?_;refine aB λI a w U=>?_;obtain⟨I,U⟩:=U.fb 1 6;refine aZ λI a w U=>?_;refine U.cd (λah=>?_) λah=>?_
  .refine aR λI a w U=>?_;refine U.ret rfl (.cons (.sx 0) aW.nil) ?_;exact(by rw[Pa ae aT ah];rfl)
  refine aF λI a w U=>?_;have U:=U.drop 1;exact U.ag (k+1) (⟨ae,λi h1=>by rcases Nat.lt_succ_iff_lt_or_eq.1 h1 with h|h;exact aT i h;rw[h];exact ah⟩)
 refine zt ?_;refine U.o (.bd ke bc.nil) λU=>?_;refine aB λI a w U=>?_;refine U.ret rfl (.cons (.sx 0) aW.nil) ?_;exact(by rw[QJ om aT];rfl)
def JW (l:List ax) (h:l.length<=1048576) (hd:∀y∈l,kH y):
 Fn prog 83 [dR l] (dR l):=by
 refine Fn.go 21 func83 ntmps83 (λW I a U=>?_);have hle:=U.eC (t:=0) rfl;refine aB λI a w U=>?_;refine U.l0 λb5 I a w U=>?_;refine aF λI a w U=>?_;refine St.lo (σ:=Nat×Value) (run 2 3 (run 14 6 [])) ⟨λ⟨k,v⟩=>[(4,AV.int k),(3,AV.val v)],λ⟨k,v⟩=>[Own.row v 84 15 ((l.take k).map ax.cells)],λ⟨k,v⟩=>k<=l.length⟩ (λ⟨k,v⟩=>l.length-k) (0,.slice (some ⟨b5,0,none⟩) 0 0) U ?aJ ?bF;case aJ=>exact Nat.zero_le _
 rintro⟨k,v⟩ I a w an U;have hk:k<=l.length:=an;dsimp only at U;refine aZ λI a w U=>?_;refine cz (λae=>?_) λae=>?_
 .refine cj λI a w U=>?_;refine U.o (.c1 (QY (ab l k) (hd _ (bf ae)))) λU=>?_;refine U.o (.li [(ab l k).cells] ir (.u .nil)) λU=>?_;refine U.ap 0 λrE a w U=>?_;rw[cF,<-eT ae] at U;refine aZ λI a w U=>?_;exact U.ag (k+1,rE) (ae)
 refine zt ?_;refine aF λI a w U=>?_;obtain⟨I,U⟩:=U.fr 0 2;refine U.rt ?_;exact congrArg (AV.rows 15) (by rw[List.take_of_length_le om])
def Ci (s:Server) (h:sO s):
 Fn prog 84 [s.av] (s.av):=by
 refine Fn.go 27 func84 ntmps84 (λW I a U=>?_);obtain⟨h1,⟨h2,h3⟩,⟨h4,h5⟩,h6,h7⟩:=h;refine sr<|U.box rfl .tt λb1 I a w U=>U.alloc rfl cv dN λb2 I a w U=>?_;refine zt ?_;refine U.l0 λb3 I a w U=>?_;refine aG λI a w U=>?_;refine U.ap 2 λv6 a w U=>?_;obtain⟨I,U⟩:=U.fr 2 6;refine bB λI a w U=>?_;refine U.o (.cl (xG s.ai h2 h3)) λU=>?_;refine bB λI a w U=>?_;refine U.o (.cl (xG s.waits h4 h5)) λU=>?_;refine aF λI a w U=>?_;refine U.l0 λBV I a w U=>?_;refine aG λI a w U=>?_;refine U.ap 3 λrE a w U=>?_;obtain⟨I,U⟩:=U.fr 3 19;refine aF λI a w U=>?_;refine U.l0 λB5 I a w U=>?_;refine aG λI a w U=>?_;refine U.ap 4 λB3 a w U=>?_;obtain⟨I,U⟩:=U.fr 4 24;refine aZ λI a w U=>?_;refine U.ret rfl (.cons (.sx 1) aW.nil) ?_;rfl
def Si (l:List aE) (key:Int) (hc:cg l=true):
 Fn prog 221 [cn l,AV.int key] (AV.dy [((dV l key).getD default).av,AV.bool (dV l key).isSome]):=by
 refine Fn.go 31 func221 ntmps221 (λW I a U=>?_);have hle:=U.eC (t:=0) rfl;have BW:=g0 hc;refine sr<|U.alloc rfl bQ dO λb4 I a w U=>?_;refine aG λI a w U=>?_;refine U.o (.cl (vr ..)) λU=>?_;refine aB λI a w U=>?_;refine U.cd (λae=>?_) λae=>?_
 .exfalso;rw[hc] at ae;cases ae;skip
 refine aZ λI a w U=>?_;refine St.lo (σ:=Nat) (run 2 5 (run 16 14 [])) ⟨λj=>[(6,AV.int ((j:Int)-1))],λj=>[Own.box b4 62 [AV.val (.int .i64 0),AV.val (.int .i64 0),AV.val (.int .i64 0),AV.val (.int .i64 0),AV.val (.int .i64 0),AV.val (.int .i64 0),AV.rows 3 []]],λj=>j<=l.length/\∀i,j<=i->i<l.length->oR key (ab l i)=false⟩ (λj=>j) l.length U ?aJ ?bF;case aJ=>exact⟨Nat.le_refl _,λi h1 h2=>by omega⟩
 rintro j I a w an U;obtain⟨hk,aT⟩:=an;refine aF λI a w U=>?_;refine cz (λah=>?_) λah=>?_
 .refine jD λI a w U=>?_;refine U.cd (λar=>?_) λar=>?_
  .refine bB λI a w U=>?_;refine U.o (bT (pO _ (by have:=pZ hc _ (bf (k:=((j:Int)-1).toNat) om);omega)) (az (.t rfl) aI)) λU=>?_;refine aF λI a w U=>?_;refine U.ret rfl (.cons (.sx 0) (.cons (.t rfl) aW.nil)) ?_;exact(by rw[P2 (k:=((j:Int)-1).toNat) om (λi h1 h2=>aT i om h2) ar];rfl)
  refine aR λI a w U=>?_;refine U.again (j-1) ?iG ?iH eA ?iI (by repeat(first|exact Env.le_rfl|refine Env.ja rfl ?_));case iG=>omega
  case iH=>exact⟨by omega,λi h1 h2=>by by_cases h:i=((j:Int)-1).toNat;(subst h;exact ar);exact aT i om h2⟩
  case iI=>exact(Env.dK rfl (by first|rfl|exact congrArg AV.int om) Env.le_nil)
 refine zt ?_;refine U.o (.bd dO bc.nil) λU=>?_;refine aF λI a w U=>?_;refine U.ret rfl (.cons (.sx 0) (.cons (.t rfl) aW.nil)) ?_;exact(by rw[Rv λi h=>aT i om h];rfl)
def Fh (l:List aE) (v:aE) (hc:cg l=true):
 Fn prog 178 [cn l,v.av] (AV.dy [cn (if ix l v then fJ l v else l),AV.bool (ix l v)]):=by
 refine Fn.go 37 func178 ntmps178 (λW I a U=>?_);have hle:=U.eC (t:=0) rfl;have BW:=g0 hc;have jG:=pZ hc;refine bB λI a w U=>?_;refine U.o (.cl (vr ..)) λU=>?_;refine aB λI a w U=>?_;refine U.cd (λae=>?_) λae=>?_
 .exfalso;rw[hc] at ae;cases ae;skip
 refine cj λI a w U=>?_;refine U.o (.cl (ug ..)) λU=>?_;refine bm λI a w U=>?_;refine U.alloc rfl bQ dO λb6 I a w U=>?_;refine U.sb 0 λU=>?_;obtain⟨I,U⟩:=U.fb 0 6;refine aG λI a w U=>?_;refine U.o (.c1 (If ..)) λU=>?_;refine pz λI a w U=>?_;refine U.cd (λah=>?_) λah=>?_
 .rw[RC v hc] at ah;replace ah:=nt ah;refine bK λI a w U=>?_;refine U.o (bT (xG l om (λu hu=>by have:=jG u hu;omega)) (az .r aI)) λU=>?_;refine dG ?_;exact(by rw[ah];rfl)
 rw[RC v hc] at ah;replace ah:=nf ah;refine aG λI a w U=>?_;refine U.o (bT (abL l v om (λu hu=>by have:=jG u hu;omega) (by have:=iE (IQ (vB ah).1);omega)) (az .r (az (.t rfl) aI))) λU=>?_;refine dG ?_;exact(by rw[ah,<-Ru (pP (vB ah).2.1)];rfl)
def Sj (s:Server) (d:au):
 Fn prog 206 [s.av,d.av] (AV.bool (ew s d)):=by
 refine Fn.go 16 func206 ntmps206 (λW I a U=>?_);refine ee λI a w U=>?_;refine U.o (.cl (rF ..)) λU=>?_;refine cj λI a w U=>?_;refine U.q .F (.cl (B2 ..)) λU=>?_;refine dG ?_;rfl
def acF (s:Server) (d:au):
 Fn prog 263 [d.av,AV.ptr s.cells] (AV.bool (!ew s d)):=by
 refine Fn.go 8 func263 ntmps263 (λW I a U=>?_);refine bB λI a w U=>?_;refine U.o (.c2 (Sj ..)) λU=>?_;refine dG ?_;rfl
def acG (s:Server) (v:aE) (hl:s.aw.length=3) (hk:c7 v.key=true):
 Fn prog 262 [v.av,AV.ptr s.cells] (AV.bool (ic s v)):=by
 refine Fn.go 15 func262 ntmps262 (λW I a U=>?_);refine cj λI a w U=>?_;refine U.o (.c2 (zD s v.key hl)) λU=>?_;refine bm λI a w U=>?_;refine U.q .T (oD (az .tt aI)) λU=>?_;refine U.q .T (.cl (QW v.aQ (λd=>!ew s d) _ (λd _=>Fn.val (acF s d)))) λU=>?_;refine tJ ?_;exact bP (abR hk)
def acH {s:Server} {k:Nat} (hk:k<s.aD.length) (h:fq s (ab s.aD k).key=false) (hb:c7 (ab s.aD k).key=true):ju s k=ju s (k+1):=by
 unfold fq at h;rw[hb,Bool.true_and] at h;rw[E6 hk,RL (by simpa using h),List.append_nil]
def acI {bs:List UInt8} {k:Int} (h0:0<=k) (h1:k<=1099511627776) (hb:bs.length≠0):0<=xy bs k/\xy bs k<4611686018427387904:=by
 have h2:=n6 bs (k%bs.length);have h3:=n9 bs (k%bs.length);have h4:=n6 bs ((k*7+3)%bs.length);have h5:=n9 bs ((k*7+3)%bs.length);have h6:=xd (k:=k) (m:=bs.length) h0 om;unfold xy;omega
end Go.Proofs.YtdanidpleofjgaaGreat
