/- Part 18: contracts of functions, plain facts. -/
import Derived.Test.YtldbakcpcfdlaaaGreatP11
import Derived.Test.YtldbakcpcfdlaaaGreatP12
import Derived.Test.YtldbakcpcfdlaaaGreatP13
import Derived.Test.YtldbakcpcfdlaaaGreatP14
set_option linter.all false
set_option maxRecDepth 100000
set_option maxHeartbeats 4000000
namespace Go.Proofs.YtldbakcpcfdlaaaGreat
open Go Go.RowKit Tryz
attribute [local irreducible] wpList Code.wp Ok
def Mn (v:aA):
 Fn prog 156 [v.av] (AV.bool (dN v)):=by
 refine Fn.go 54 func156 ntmps156 (λW I a U=>?_);have J5:v.aQ.length<=9223372036854775807:=by
  obtain⟨cs,_,hc⟩:=U.env 0 _ rfl;obtain⟨u,_,hu,_⟩:=hc.get (i:=6) rfl;exact xW hu
 refine bx λI a w U=>?_;refine U.o (.c1 (CG ..)) λU=>?_;refine bx λI a w U=>?_;refine U.q .F (.cl (AT ..)) λU=>?_;refine bY λI a w U=>?_;refine U.q .F (.cl (jI ..)) λU=>?_;refine bY λI a w U=>?_;refine U.q .F (.cl (Db ..)) λU=>?_;refine bY λI a w U=>?_;refine U.q .F (.cl (jI ..)) λU=>?_;refine bY λI a w U=>?_;refine U.q .F (.cl (Dm ..)) λU=>?_;refine aF λI a w U=>?_;refine U.cd (λae=>?_) λae=>?_
 .rw[FH v] at ae;replace ae:=nt ae;refine bf ?_;exact bB (by rw[As,ae];rfl)
 rw[FH v] at ae;replace ae:=nf ae;refine aX λI a w U=>?_;refine St.lo (σ:=Nat) (2::(4::(run 12 42 []))) ⟨λk=>[(42,AV.int k)],λk=>[],λk=>k<=v.aQ.length/\∀i,i<k->(λi=>decide ((ab v.aQ i).ar.time<v.ar.time)) i=true⟩ (λk=>v.aQ.length-k) 0 U ?aI ?bF;case aI=>exact⟨by simp,λi hi=>by omega⟩
 rintro k I a w ao U;obtain⟨hk,aM⟩:=ao;have hle:v.aQ.length<=9223372036854775807:=J5;refine aB λI a w U=>?_;refine cz (λah=>?_) λah=>?_
 .refine aG λI a w U=>?_;refine U.alloc rfl cW gX λb4 I a w U=>?_;refine aB λI a w U=>?_;obtain⟨I,U⟩:=U.fb 0 4;refine jW λI a w U=>?_;refine U.cd (λaq=>?_) λaq=>?_
  .rw[FG] at aq;replace aq:=nt aq;refine bf ?_;exact bB (by rw[As,ae];exact(eI (f:=(λi=>decide ((ab v.aQ i).ar.time<v.ar.time))) ah aq).symm)
  rw[FG] at aq;replace aq:=nf aq;refine aF λI a w U=>?_;have U:=U.drop 0;exact U.ag (k+1) (⟨by omega,eY aM aq⟩)
 refine zt ?_;refine bf ?_;exact bB (by rw[As,ae];exact(eX aM om).symm)
def Bc (l:List aA):
 Fn prog 81 [bU l] (AV.bool (ct l)):=by
 refine Fn.go 35 func81 ntmps81 (λW I a U=>?_);have hle:=U.eE (t:=0) rfl;refine aX λI a w U=>?_;refine St.lo (σ:=Nat) (run 3 2 (run 25 7 [])) ⟨λk=>[(7,AV.int k)],λk=>[],λk=>k<=l.length/\∀i,i<k->(fO dN fP l) i=true⟩ (λk=>l.length-k) 0 U ?aI ?bF;case aI=>exact⟨by simp,λi hi=>by omega⟩
 rintro k I a w ao U;obtain⟨hk,aM⟩:=ao;refine aB λI a w U=>?_;refine cz (λae=>?_) λae=>?_
 .refine bk λI a w U=>?_;refine U.alloc rfl bL ee λb4 I a w U=>?_;refine aF λI a w U=>?_;obtain⟨I,U⟩:=U.fb 0 4;refine U.dk ?_;refine bG ?_;refine .o (.c1 (Mn ..)) ?_;refine pK ?_;refine .q .T2 (.cl (nA ..)) ?_;refine bG ?_;refine .q .T2 (.cl (nA ..)) ?_;refine .q .T2 (.cl (Gj ..)) ?_;refine dO ?_;refine .nil ?_;intro I a w U;refine bm ?_;refine U.cd (λah=>?_) λah=>?_
  .rw[show eQ (ab l ((k:Int)-1).toNat).aU (ab l k).aU=fP (ab l ((k:Int)-1).toNat) (ab l k) from rfl,wD] at ah;replace ah:=nt ah;refine bf ?_;exact bB (by unfold ct;rw[eI (f:=(fO dN fP l)) ae ah];simp)
  rw[show eQ (ab l ((k:Int)-1).toNat).aU (ab l k).aU=fP (ab l ((k:Int)-1).toNat) (ab l k) from rfl,wD] at ah;replace ah:=nf ah;refine aF λI a w U=>?_;have U:=U.drop 0;exact U.ag (k+1) (⟨by omega,eY aM ah⟩)
 refine zt ?_;refine aX λI a w U=>?_;refine U.rt ?_;exact bB (by unfold ct;rw[eX aM om,Bool.and_true];simp;try omega)
def Mo (m:az):
 Fn prog 89 [m.av] (AV.bool (bK m)):=by
 refine Fn.go 76 func89 ntmps89 (λW I a U=>?_);refine bx λI a w U=>?_;refine U.o (.cl (jJ ..)) λU=>?_;refine bk λI a w U=>?_;refine U.q .T (.cl (tQ ..)) λU=>?_;refine bk λI a w U=>?_;refine U.q .F2 (.cl (C1 ..)) λU=>?_;refine bY λI a w U=>?_;refine U.q .T (.cl (tQ ..)) λU=>?_;refine bk λI a w U=>?_;refine U.q .F2 (.cl (C1 ..)) λU=>?_;refine bY λI a w U=>?_;refine U.q .T (.cl (jJ ..)) λU=>?_;refine bx λI a w U=>?_;refine U.q .T (.cl (wR ..)) λU=>?_;refine bx λI a w U=>?_;refine U.q .T (.cl (Tj ..)) λU=>?_;refine bx λI a w U=>?_;refine U.q .T (.cl (jJ ..)) λU=>?_;refine bx λI a w U=>?_;refine U.q .T (.cl (tT ..)) λU=>?_;refine bx λI a w U=>?_;refine U.q .T (.cl (jJ ..)) λU=>?_;refine bx λI a w U=>?_;refine U.q .T (.cl (jJ ..)) λU=>?_;refine bx λI a w U=>?_;refine U.q .T (.cl (wS ..)) λU=>?_;refine bx λI a w U=>?_;refine U.q .T (.cl (wS ..)) λU=>?_;refine bx λI a w U=>?_;refine U.q .T (.cl (K7 ..)) λU=>?_;refine c8 ?_;rfl
def af3 (l:List (Answer)) (p:(Answer)->Bool) (fv:AV) (hf:∀x:Answer,x∈l->lh prog fv [x.av] (AV.bool (p x))):
 Fn prog 187 [sd l,fv] (AV.bool (hasB p l)):=by
 refine Fn.go 9 func187 ntmps187 (λW I a U=>?_);refine bk λI a w U=>?_;refine U.o (.cl (KC _ _ _ hf)) λU=>?_;refine c8 ?_;rfl
def Bd {l:List aw} {d:aw} (h:bT l=true) (hd:l9 d=true):bT (gI l d)=true:=by
 simp only[l9,Bool.and_eq_true] at hd;exact R0 h (by simpa[du] using hd.1) hd.2
def zb {a b:List aw} (ha:bT a=true) (hb:∀d∈b,l9 d=true):bT (iX a b)=true:=by
 unfold iX;induction b generalizing a with
 |nil=>exact ha
 |cons d r ih=>exact ih (Bd ha (hb d bn)) (λe he=>hb e (by simp[he]))
def Va {a b:List aw} (ha:bT a=true) (hb:bT b=true) (k:Nat):bT (iX a (b.take k))=true:=
 zb ha λd hd=>qN hb (List.mem_of_mem_take hd)
def qW (c:Call) (i:Nat):Bool:=fO (λa=>iE c.keys a.key) gZ c.au i&&dL (ab c.au i)
def o5 (c:Call):Bool:=cI c.au.length (qW c)
def qX (c:Call):Bool:=o5 c&&cI c.aL.length (sF c)&&(((c.aL.length:Int)==0)||qR c)
def nL (c:Call) (time:Int):Bool:=eF c.aj&&aJ c.num 1 99&&fU c&&aJ c.val 0 9999&&bT c.ctx&&bT c.aL&&aJ c.bH 1 time&&mq c.ar&&qX c
def gf (c:Call) (time:Int):Bool:=nL c time&&AN c&&oX c time
def Mp (c:Call) (k:Nat):(!iE c.keys (ab c.au k).key||(decide (0<(k:Int))&&decide ((ab c.au k).key<=(ab c.au ((k:Int)-1).toNat).key)))=!fO (λa=>iE c.keys a.key) gZ c.au k:=by
 rw[<-wD];have e:decide ((ab c.au k).key<=(ab c.au ((k:Int)-1).toNat).key)=!gZ (ab c.au ((k:Int)-1).toNat) (ab c.au k):=by rw[Bool.eq_iff_iff];simp[gZ]
 rw[e]
def Vb (c:Call) (time:Int):(!eF c.aj||!aJ c.num 1 99||!fU c||!aJ c.val 0 9999||!bT c.ctx||!bT c.aL||!aJ c.bH 1 time||!mq c.ar||!qX c)=!nL c time:=by simp[nL]
def xv (c:Call) (i:Nat):Bool:=yH (ab c.au i)&&fO (λa=>iE c.keys a.key) gZ c.au i
def af4 {c:Call} (h:jZ c.keys=true) (i:Nat):xv c i=qW c i:=by
 unfold xv qW;cases h1:fO (λa=>iE c.keys a.key) gZ c.au i
 .simp
 have h2:iE c.keys (ab c.au i).key=true:=by unfold fO at h1;rw[Bool.and_eq_true] at h1;exact h1.1
 have:=AW h (lR.1 h2);unfold yH dL;cases(ab c.au i).yes<;>simp[this]
def Mq {c:Call} (h:o5 c=true) {i:Nat} (hi:i<c.au.length):dL (ab c.au i)=true/\iE c.keys (ab c.au i).key=true:=by
 have:=(gF.1 h) i hi;unfold qW fO at this;simp only[Bool.and_eq_true] at this;exact⟨this.2,this.1.1⟩
def xx {c:Call} {key:Int} (h:0<=cv c key):(cv c key).toNat<c.au.length:=by
 have:=Dn (vD key) c.au;unfold cv at*;omega
def Mr {a:Answer} {s:cE} (h:dL a=true) (U:dB s=true):nE a s=bQ a.aY.ar s:=by
 unfold dL at h;unfold nE;cases hy:a.yes
 .rw[hy] at h;simp[jY] at h;have:=pO U;rw[h,show bQ sE.ar s=true from R4 this];rfl
 simp
def af5 {c:Call} (h:o5 c=true) (hd:bT c.aL=true) {i:Nat} (hi:i<c.aL.length):xa c i=sF c i:=by
 unfold xa sF;by_cases hg:0<=cv c (ab c.aL i).key
 .have h2:=qN hd (bh hi);simp only[l9,Bool.and_eq_true] at h2;rw[Mr (Mq h (xx hg)).1 h2.2]
 simp[hg]
def zc (l:List Call) (time:Int) (i:Nat):Bool:=gf (ab l i) time&&(decide (i=0)||decide ((ab l (i-1)).bH<(ab l i).bH))
def nM (l:List Call) (time:Int) (i:Nat):Bool:=(zc l time i&&((ab l i).num==fM l (i+1) (ab l i).aj))&&cI i λj=>!mH (ab l j) (ab l i)
def jr (l:List Call) (time:Int):Bool:=cI l.length (nM l time)&&decide (l.length<=20)
def Vc (l:List Call) (time:Int) (k:Nat):(!gf (ab l k) time||(decide (0<(k:Int))&&decide ((ab l k).bH<=(ab l ((k:Int)-1).toNat).bH)))=!zc l time k:=by
 have e:=wD (λd=>gf d time) (λa b=>decide (a.bH<b.bH)) l k;have e2:decide ((ab l k).bH<=(ab l ((k:Int)-1).toNat).bH)=!decide ((ab l ((k:Int)-1).toNat).bH<(ab l k).bH):=by rw[Bool.eq_iff_iff];simp
 rw[e2,e];rfl
def Vd (l:List Call) (time:Int) (k:Nat):((!gf (ab l k) time||(decide (0<(k:Int))&&decide ((ab l k).bH<=(ab l ((k:Int)-1).toNat).bH)))||((ab l k).num !=fM l (k+1) (ab l k).aj))=!(zc l time k&&((ab l k).num==fM l (k+1) (ab l k).aj)):=by
 rw[Vc];simp[bne]
def cK (w:ai):Bool:=oQ w&&cI w.aC.length (sD w)&&!hasB yP w.al&&!hasB yA w.seen&&jr w.calls w.time
def af6 {l:List Call} {time:Int} (h:jr l time=true) {k:Nat} (hk:k<l.length):gf (ab l k) time=true:=by
 unfold jr at h;rw[Bool.and_eq_true,gF] at h;have:=h.1 k hk;simp only[nM,zc,Bool.and_eq_true] at this;exact this.1.1.1
def DJ {a b:List aw} (ha:bT a=true) (hb:bT b=true) (key:Int):bI (iX a b) key=dQ (bI a key) (bI b key):=by
 have wx:∀d∈b,l9 d=true:=λd hd=>qN hb hd;have Be:∀{b:List aw} {last:Int} {a:List aw},bT a=true->ez last b=true->(∀d∈b,l9 d=true)->bI (iX a b) key=dQ (bI a key) (bI b key):=by
  intro b;induction b with
  |nil=>
   intro last a ha _ _
   show bI a key=dQ (bI a key) gm
   rw[CW (tZ ha key)]
  |cons d r ih=>
   intro last a ha hb aM
   have hd:=aM d bn
   have ko:=hd
   simp only[l9,Bool.and_eq_true] at ko
   simp only[ez,Bool.and_eq_true] at hb
   show bI (iX (gI a d) r) key=_
   rw[ih (Bd ha hd) hb.2 λe he=>aM e (by simp[he]),CX key ha ko.2,mD]
   split
   .rename_i hk
    have:bI r key=gm:=Az hb.2 om
    rw[this,CW]
    have h1:=tZ ha key
    rcases h1 with h1|h1
    .rw[h1,pP (Or.inr ko.2)];exact Or.inr ko.2
    right
    unfold dQ;split
    .exact ko.2
    exact h1
   rfl
 exact Be ha hb wx
def GO (c:Call) (a:Answer):Bool:=!dw (bI (AA c) a.key)&&nE a (bI (AA c) a.key)
def zd (c:Call):Bool:=!hasB (GO c) c.au
def pY:∀{l:List Answer} {acc:List aw},bT acc=true->(∀a∈l,dL a=true)->bT (l.foldl kT acc)=true/\∀key,bI (l.foldl kT acc) key=dQ (bI acc key) (kx l key)
 |[],acc,ha,_=>⟨ha,λkey=>by show bI acc key=dQ (bI acc key) gm;rw[CW (tZ ha key)]⟩
 |a::r,acc,ha,h=>by
  have hd:=sG (h a bn);have h1:bT (kT acc a)=true:=zb ha λd ko=>qN hd ko;have h2:=pY (l:=r) h1 λb hb=>h b (by simp[hb]);refine⟨h2.1,λkey=>?_⟩;show bI (r.foldl kT (kT acc a)) key=_;rw[h2.2 key];unfold kT;rw[DJ ha hd,Kr];rfl
def ze {c:Call} {time:Int} (h:gf c time=true):bT c.ctx=true/\(∀a∈c.au,dL a=true)/\fU c=true/\eF c.aj=true/\1<=c.bH/\c.bH<=time:=by
 simp only[gf,nL,qX,Bool.and_eq_true] at h;have hg:o5 c=true:=h.1.1.2.1.1;have hb:=h.1.1.1.1.2;simp[aJ] at hb;refine⟨h.1.1.1.1.1.1.2,λa ha=>?_,h.1.1.1.1.1.1.1.1.2,h.1.1.1.1.1.1.1.1.1.1,hb.1,hb.2⟩;obtain⟨k,hk,rfl⟩:=fS ha;exact(Mq hg hk).1
def af7 {c:Call} {t t':Int} (h:gf c t=true) (ht:t<=t'):gf c t'=true:=by
 simp only[gf,nL,Bool.and_eq_true] at h⊢;have h1:aJ c.bH 1 t'=true:=by
  have:=h.1.1.1.1.2;simp[aJ] at this⊢;omega
 have h2:oX c t'=true:=by
  have:=h.2;unfold oX at this⊢;split
  .rename_i he;rwa[if_pos he] at this
  rename_i he;rw[if_neg he] at this;have e:aJ c.end_ (c.bH+1) t'=true:=by
   simp[aJ] at this⊢;omega
  have e':aJ c.end_ (c.bH+1) t=true:=by
   simp[aJ] at this⊢;omega
  rw[e];rwa[e'] at this
 exact⟨⟨⟨⟨⟨h.1.1.1.1.1,h1⟩,h.1.1.1.2⟩,h.1.1.2⟩,h.1.2⟩,h2⟩
def Ms {c:Call} {t:Int} (h:gf c t=true):gf c (c.bH+c.end_)=true:=by
 have hp:=ze h;simp only[gf,nL,Bool.and_eq_true] at h⊢;have he:c.end_=0\/c.bH+1<=c.end_:=by
  have:=h.2;unfold oX at this;by_cases h0:c.end_=0
  .exact Or.inl h0
  rw[if_neg h0] at this;right;simp[aJ] at this;omega
 have h1:aJ c.bH 1 (c.bH+c.end_)=true:=by simp[aJ];omega
 have h2:oX c (c.bH+c.end_)=true:=by
  have:=h.2;unfold oX at this⊢;by_cases h0:c.end_=0
  .rwa[if_pos h0] at this⊢
  rw[if_neg h0] at this⊢;have e:aJ c.end_ (c.bH+1) (c.bH+c.end_)=true:=by simp[aJ];omega
  have e':aJ c.end_ (c.bH+1) t=true:=by
   simp[aJ] at this⊢;omega
  rw[e];rwa[e'] at this
 exact⟨⟨⟨⟨⟨h.1.1.1.1.1,h1⟩,h.1.1.1.2⟩,h.1.1.2⟩,h.1.2⟩,h2⟩
def qY (w:ai) (i:Nat):Bool:=!((decide (0<(ab w.calls i).end_)&&!zd (ab w.calls i))||!sw (gJ (ab w.calls i)) (oj w i))
def qZ (w:ai):Bool:=cK w&&cI w.calls.length (qY w)
def mI (w:ai):Bool:=cK w&&decide (w.al.length=0)&&cI w.aC.length (λi=>calm (ab w.aC i))&&decide (cg w 0=cg w 1)
def zf {w:ai} (h:cK w=true) {k:Nat} (hk:k<4):iB (ab w.aC k)=true/\w.aC.length=4/\(ab w.aC k).site=k:=by
 simp only[cK,Bool.and_eq_true] at h;have hl:w.aC.length=4:=by
  have:=h.1.1.1.1;simp[oQ] at this;omega
 have:=(gF.1 h.1.1.1.2) k om;unfold sD at this;rw[Bool.and_eq_true] at this;exact⟨this.2,hl,by simpa using this.1⟩
def gu (s:Server) (m:az):Server×List az:=
 if uk s m then
  let v:=ab m.an 0
  if placeOf s.an v.aU<0/\placeOf s.waits v.aU<0 then
   if iO s.waits v then(ef {s with waits:=fJ s.waits v},[mF s m v]) else(s,[])
  else(ef s,[mF s m v])
 else(s,[])
def Mt (x y:List aw) (hx:bT x=true) (hy:bT y=true):
 Fn prog 186 [bE x,bE y] (bE (iX x y)):=by
 refine Fn.go 21 func186 ntmps186 (λW I a U=>?_);have Dp:=iV hx;have af8:=iV hy;refine aG λI a w U=>?_;refine U.o (bO (vu x om) (ax .r aH)) λU=>?_;refine aX λI a w U=>?_;refine St.lo (σ:=Nat) (5::(7::(run 8 12 []))) ⟨λk=>[(12,AV.int k),(5,bE (iX x (y.take k)))],λk=>[],λk=>k<=y.length⟩ (λk=>y.length-k) 0 U ?aI ?bF;case aI=>exact Nat.zero_le _
 rintro k I a w ao U;have hk:k<=y.length:=ao;refine aB λI a w U=>?_;refine cz (λae=>?_) λae=>?_
 .refine aG λI a w U=>?_;refine U.alloc rfl cW gX λb7 I a w U=>?_;refine aB λI a w U=>?_;obtain⟨I,U⟩:=U.fb 0 7;refine aG λI a w U=>?_;refine U.o (.cl (Lc _ _ (Va hx hy k))) λU=>?_;refine aR λI a w U=>?_;have U:=U.drop 0;refine U.again (k+1) ?hO ?hP dR ?hZ (by repeat(first|exact Env.le_rfl|refine Env.iy rfl ?_));case hO=>omega
  case hP=>exact ae
  case hZ=>exact(Env.dA rfl dR (Env.dA rfl (by exact congrArg bE (by rw[R1 ae])) Env.le_nil))
 refine zt ?_;refine c8 ?_;exact congrArg bE (by rw[List.take_of_length_le om])
def af9 {q:Call} {time:Int} (h:nL q time=true):1<=q.bH/\q.bH<=time:=by
 simp only[nL,Bool.and_eq_true] at h;have:=h.1.1.2;simp[aJ] at this;exact this
def Ve (q:Call) (k:Nat):(!yH (ab q.au k)||!iE q.keys (ab q.au k).key||(decide (0<(k:Int))&&decide ((ab q.au k).key<=(ab q.au ((k:Int)-1).toNat).key)))=!xv q k:=by
 unfold xv;rw[Bool.or_assoc,Mp];simp
def aga (x:Answer):
 Fn prog 247 [x.av] (AV.bool (yH x)):=by
 refine Fn.go 55 func247 ntmps247 (λW I a U=>?_);refine cF λI a w U=>?_;refine cz (λae=>?_) λae=>?_
 .refine aG λI a w U=>?_;refine U.alloc rfl bL ee λb3 I a w U=>?_;refine aB λI a w U=>?_;obtain⟨I,U⟩:=U.fb 0 3;refine aG λI a w U=>?_;refine U.o (.c1 (wR ..)) λU=>?_;refine aap λI a w U=>?_;refine U.q .T (.bd kv aZ.nil) λU=>?_;refine U.q .T (nr [_,_] [_,_] nz rfl rfl .ag .ag) λU=>?_;refine pJ λI a w U=>?_;refine U.rt ?_;exact bB (by rw[<-adC x ae,<-FX])
 refine aG λI a w U=>?_;refine U.o (.c1 (J4 ..)) λU=>?_;refine oE λI a w U=>?_;refine U.rt ?_;exact bB (by unfold yH;rw[ae];rfl)
def Vf {l:List Call} {time:Int} {j:Nat} (h:nM l time j=true):(ab l j).num=fM l (j+1) (ab l j).aj:=by
 simp only[nM,Bool.and_eq_true,beq_iff_eq] at h;exact h.1.2
def Vg (l:List Call) (time:Int) (k:Nat):(!gf (ab l k) time||(decide (0<(k:Int))&&decide ((ab l k).bH<=(ab l ((k:Int)-1).toNat).bH)))=!zc l time k:=Vc l time k
def GP (l:List Call) (time:Int) (k:Nat):nM l time k=((zc l time k&&((ab l k).num==fM l (k+1) (ab l k).aj))&&cI k λj=>!mH (ab l j) (ab l k)):=rfl
def Vh (x:ai):(!aJ x.time 0 99999||((x.aC.length:Int) !=4)||decide (60<(x.al.length:Int))||((x.seen.length:Int) !=2)||!jr x.calls x.time)=!(oQ x&&jr x.calls x.time):=by
 unfold oQ;simp
def agb {q:Call} {t:Int} (h:gf q t=true) (hk:q.kind=1) (he:¬q.end_=0):l9 ⟨ab q.keys 0,q.ar⟩=true:=by
 have hp:=ze h;have gN:jZ q.keys=true:=by have:=hp.2.2.1;unfold fU at this;rw[Bool.and_eq_true] at this;exact this.1
 have h1:=AW gN (bh (yS hp.2.2.1 hk));simp only[gf,nL,Bool.and_eq_true] at h;have bj:mq q.ar=true:=h.1.1.1.2;have lT:=h.2;unfold oX at lT;rw[if_neg he] at lT;simp[hk] at lT;simp only[mq,lT.2,Bool.false_or] at bj;simp[l9,h1,bj]
def Mu {x:ai} (h:cK x=true):(0<=x.time/\x.time<=99999)/\x.aC.length=4/\x.al.length<=60/\x.seen.length=2/\(∀q∈x.calls,gf q x.time=true)/\x.calls.length<=20/\∀l∈x.seen,bT l=true:=by
 have h0:=h;simp only[cK,Bool.and_eq_true] at h;have hh:oQ x=true:=h.1.1.1.1;have ht:=Su hh;have hc:jr x.calls x.time=true:=h.2;simp only[oQ,Bool.not_eq_true',Bool.or_eq_false_iff] at hh;have e1:=hh.1.1.2;have e2:=hh.1.2;have e3:=hh.2;simp at e1 e2 e3;refine⟨ht,by omega,by omega,by omega,λq hq=>?_,?_,λl hl=>?_⟩
 .obtain⟨k,hk,rfl⟩:=fS hq;exact af6 hc hk
 .unfold jr at hc;rw[Bool.and_eq_true,decide_eq_true_eq] at hc;exact hc.2
 have:=h.1.2;rw[AG,gF] at this;obtain⟨k,hk,rfl⟩:=fS hl;exact this k hk
def agc {q:Call} {t:Int} (h:gf q t=true) (ht:0<=t):0<=q.end_/\q.end_<=t/\1<=q.bH/\q.bH<=t/\0<=q.aj/\q.aj<=1:=by
 have hp:=ze h;simp only[gf,Bool.and_eq_true] at h;have he:=h.2;have bq:=hp.2.2.2.1;simp[eF,aJ] at bq;unfold oX at he;by_cases h0:q.end_=0
 .omega
 rw[if_neg h0] at he;simp[aJ] at he;omega
def agd (x:ai) (k:Nat) (h:(decide (0<(ab x.calls k).end_)&&!zd (ab x.calls k))=true):qY x k=false:=by
 unfold qY;rw[h];rfl
def Vi (x:ai) (k:Nat) (h:(decide (0<(ab x.calls k).end_)&&!zd (ab x.calls k))=false) (h2:sw (gJ (ab x.calls k)) (oj x k)=true):qY x k=true:=by
 unfold qY;rw[h,h2];rfl
def Vj (x:ai) (k:Nat) (h2:sw (gJ (ab x.calls k)) (oj x k)=false):qY x k=false:=by
 unfold qY;rw[h2];simp
def GQ (l:List aA) (v:aA) (h:l.length<=1048575) (hd:∀u∈l,u.aQ.length<=1048576) (hv:v.aQ.length<=1048576):
 Fn prog 133 [bU l,v.av] (bU (fJ l v)):=by
 refine Fn.go 29 func133 ntmps133 (λW I a U=>?_);refine aR λI a w U=>?_;refine St.lo (σ:=Nat) (run 17 5 []) ⟨λk=>[(5,AV.int k)],λk=>[],λk=>k<=l.length/\∀i,i<k->fP (ab l i) v=true⟩ (λk=>l.length-k) 0 U ?aI ?bF;case aI=>exact⟨Nat.zero_le _,λi hi=>by omega⟩
 rintro k I a w ao U;obtain⟨hk,aM⟩:=ao;refine wp_seq<|wp_seq<|U.dk ?_;refine vh ?_;refine .q .T (.cl (nA ..)) ?_;refine bG ?_;refine .q .T (.cl (nA ..)) ?_;refine .q .T (.cl (Gj ..)) ?_;refine bG ?_;refine .nil ?_;intro I a w U;refine bm ?_;refine cz (λae=>?_) λae=>?_
 .refine aR λI a w U=>?_;exact U.ag (k+1) (⟨by omega,λi h1=>by rcases Nat.lt_succ_iff_lt_or_eq.1 h1 with h|h;exact aM i h;rw[h];exact ae.2⟩)
 refine zt ?_;refine U.da 6 ?_;simp only[TD];refine bG ?_;refine gW.pG (xd l om hd) (ax .r aH) ?_;refine cG ?_;refine .o (.c1 (yJ v hv)) ?_;refine .o (.li [v.cells] mB (.u .nil)) ?_;refine .nil ?_;intro I a w U;obtain⟨Gw,U⟩:=U.Fj (d:=23);refine U.fR [0] (aca _ (l.map aA.cells) v.cells k (by rw[List.length_map];exact hk) lf (λr hr=>by obtain⟨u,_,rfl⟩:=List.mem_map.1 hr;rfl) rfl) (ax .tt (ax .tt (ax .tt aH))) rfl aP rfl λI a w U=>?_;refine bf ?_;exact congrArg (AV.rows 7) (by rw[<-SU hk aM (λhl=>by rcases ae with h|h;omega;exact h),List.map_append,List.map_cons,List.map_take,List.map_drop])
def o6 {x:ai} (ao:cK x=true) {i:Nat} (hi:i<4):ct (ab x.aC i).an=true/\ct (ab x.aC i).waits=true/\gz (ab x.aC i).aE=true/\gz (ab x.aC i).ba=true/\(ab x.aC i).aD.length=3:=by
 have h:=zf ao hi;have h2:=CI (Sr h.1);exact⟨h2.2.1,h2.2.2.1,h2.2.2.2.1,h2.2.2.2.2.1,h2.1⟩
def DK (x:ai) (s:Int) (ao:cK x=true) (u7:0<=s/\s<=1):
 Fn prog 60 [x.av,AV.int s] (bU (cg x s)):=by
 refine Fn.go 39 func60 ntmps60 (λW I a U=>?_);have h4:=(zf ao (k:=0) om).2.1;obtain⟨ca,-⟩:=o6 ao (i:=(2*s).toNat) om;obtain⟨cb,-⟩:=o6 ao (i:=(2*s+1).toNat) om;have la:=ga ca;have lb:=ga cb;refine bY λI a w U=>?_;refine U.o (mi .c .tt (λ_=>by omega)) λU=>?_;refine bk λI a w U=>?_;refine U.o (bO (kQ.fn (xd (ab x.aC (2*s).toNat).an om (λv hv=>by have:=ob ca v hv;omega))) (ax .r aH)) λU=>?_;refine bx λI a w U=>?_;refine U.o (mi .c .tt (λ_=>by omega)) λU=>?_;refine iM λI a w U=>?_;refine St.lo (σ:=Nat) (5::(7::(run 13 25 []))) ⟨λk=>[(25,AV.int k),(5,bU (((ab x.aC (2*s+1).toNat).an.take k).foldl er (ab x.aC (2*s).toNat).an))],λk=>[],λk=>k<=(ab x.aC (2*s+1).toNat).an.length⟩ (λk=>(ab x.aC (2*s+1).toNat).an.length-k) 0 U ?aI ?bF;case aI=>exact Nat.zero_le _
 rintro k I a w ao U;have hk:k<=(ab x.aC (2*s+1).toNat).an.length:=ao;refine aB λI a w U=>?_;refine cz (λae=>?_) λae=>?_
 .refine aG λI a w U=>?_;refine U.alloc rfl bL ee λb7 I a w U=>?_;refine aB λI a w U=>?_;obtain⟨I,U⟩:=U.fb 0 7;refine aG λI a w U=>?_;refine U.o (.c1 (nA ..)) λU=>?_;refine U.o (.cl (oH ..)) λU=>?_;refine aB λI a w U=>?_;refine cz (λah=>?_) λah=>?_
  .refine aG λI a w U=>?_;refine U.o (bO (GQ (((ab x.aC (2*s+1).toNat).an.take k).foldl er (ab x.aC (2*s).toNat).an) (ab (ab x.aC (2*s+1).toNat).an k) (by have:=w5 ((ab x.aC (2*s+1).toNat).an.take k) (ab x.aC (2*s).toNat).an;simp at this;omega) (λv hv=>by have:=F4 (λv hv=>ob cb v (List.mem_of_mem_take hv)) (ob ca) v hv;omega) (by have:=ob cb _ (bh ae);omega)) (ax .r (ax (.t rfl) aH))) λU=>?_;refine aR λI a w U=>?_;have U:=U.drop 0;refine U.again (k+1) ?hO ?hP dR ?hZ (by repeat(first|exact Env.le_rfl|refine Env.iy rfl ?_));case hO=>omega
   case hP=>exact ae
   case hZ=>exact(Env.dA rfl dR (Env.dA rfl (by first|exact congrArg bU (by rw[vA ae,er,if_pos ah])|exact congrArg bU (by rw[vA ae,er,if_neg om])) Env.le_nil))
  refine aF λI a w U=>?_;have U:=U.drop 0;refine U.again (k+1) ?mV ?mW dR ?mX (by repeat(first|exact Env.le_rfl|refine Env.iy rfl ?_));case mV=>omega
  case mW=>exact ae
  case mX=>exact(Env.dA rfl dR (Env.dA rfl (by first|exact congrArg bU (by rw[vA ae,er,if_pos ah])|exact congrArg bU (by rw[vA ae,er,if_neg om])) Env.le_nil))
 refine zt ?_;refine c8 ?_;exact congrArg bU (by rw[List.take_of_length_le om];rfl)
def Mv {l:List aw} {d:aw} (h:gz l=true) (hd:kO d=true) (hl:l.length<80):gz (eA l d)=true:=by
 obtain⟨h1,h2,h3⟩:=xe.1 h;unfold eA;split
 .exact h
 rename_i hn;refine xe.2 ⟨by rw[SV];omega,λx hx=>?_,S3 h3 λx hx e=>hn (oY.2 (e▸hx))⟩;rcases Gg.1 hx with rfl|hx
 .exact hd
 exact h2 x hx
def bJ.Lh {s:Server} (h:bJ s):bJ (ir s):=bJ.jl _ h
def bJ.settle {s:Server} (h:bJ s):bJ (ef s):=h.Lh.gi
def age {s:Server} {m:az} (h:bJ s):bJ (gu s m).1:=by
 unfold gu;split
 .rename_i hr;obtain⟨_,_,_,ho,hf⟩:=Dt hr;dsimp only;split
  .rename_i hn;split
   .rename_i hc;exact(h.wait hc hn.1 hf (by rw[(yK ho).2];omega)).settle
   exact h
  exact h.settle
 exact h
def bJ.Vk {s:Server} (h:bJ s) {d:aw} (hd:kO d=true) (hl:s.ba.length<80) (hu:s.up=true):bJ {s with ba:=eA s.ba d}:=
 ⟨h.site,h.aD,h.an,h.waits,h.aE,Mv h.ba hd hl,(λe=>by rw[hu] at e;cases e),h.aN,h.here,h.oK,h.oL,h.apart,h.lN⟩
def Vl {q:Call}:o5 q=true↔(∀a∈q.au,iE q.keys a.key=true)/\(q.au.Pairwise λa b=>gZ a b=true)/\∀a∈q.au,dL a=true:=by
 unfold o5;rw[gF];have h1:=FO (aN:=λa:Answer=>iE q.keys a.key) (less:=gZ) (λh1 h2=>ad6 h1 h2) (l:=q.au);rw[gF] at h1;unfold qW;constructor
 .intro h;have h2:=h1.1 λi hi=>(Bool.and_eq_true _ _▸h i hi:_/\_).1;refine⟨h2.1,h2.2,λa ha=>?_⟩;obtain⟨k,hk,rfl⟩:=fS ha;exact(Bool.and_eq_true _ _▸h k hk:_/\_).2
 rintro⟨a1,a2,a3⟩ i hi;rw[Bool.and_eq_true];exact⟨h1.2 ⟨a1,a2⟩ i hi,a3 _ (bh hi)⟩
def vP {q:Call} {key:Int} (h:0<=cv q key):(cv q key).toNat<q.au.length/\(ab q.au (cv q key).toNat).key=key:=by
 refine⟨xx h,?_⟩;unfold cv df at*;split at h
 .rename_i k hk;obtain⟨h1,h2,_⟩:=List.findIdx?_eq_some_iff_getElem.1 hk;simpa[ab,h1,vD] using h2
 omega
def agf {q:Call} (h:q.au.Pairwise λa b=>gZ a b=true) {i:Nat} (hi:i<q.au.length):cv q (ab q.au i).key=i:=by
 have h0:0<=cv q (ab q.au i).key:=xg.2 ⟨_,bh hi,rfl⟩;obtain⟨h1,h2⟩:=vP h0;have:=TF h h1 hi h2;omega
def GR {q:Call} (h:q.au.Pairwise λa b=>gZ a b=true) {d:aw}:ug q d=true↔∃a∈q.au,a.key=d.key/\nE a d.ar=true:=by
 unfold ug;rw[Bool.and_eq_true,decide_eq_true_eq];constructor
 .rintro⟨h1,h2⟩;exact⟨_,bh (vP h1).1,(vP h1).2,h2⟩
 rintro⟨a,ha,hk,ho⟩;obtain⟨i,hi,rfl⟩:=fS ha;have e:=agf h hi;rw[hk] at e;rw[e];exact⟨by omega,ho⟩
def DL {a:Answer} (h:dL a=true):bQ a.aY.ar gm=false:=by
 cases hy:a.yes
 .rw[xb h hy];rfl
 exact Kp (pO (iW (qO h hy).1).2.1)
def Mw (vy:List aw) (U:∀key,ua (bI vy key)):∀{l:List Answer} {last:Int},(l.Pairwise λa b=>gZ a b=true)->(∀a∈l,last<a.key/\a.key<=5)->(∀a∈l,dL a=true)->ez last (l.map (oN vy)).flatten=true
 |[],_,_,_,_=>rfl
 |a::r,last,hp,hk,hg=>by
  rw[List.pairwise_cons] at hp;rw[List.map_cons,List.flatten_cons];have ha:=hk a bn;have qx:∀x∈r,dL x=true:=λx hx=>hg x (by simp[hx]);unfold oN;split
  .rename_i hl;have dq:dB (bI vy a.key)=true:=by
    rcases U a.key with e|e
    .rw[e,DL (hg a bn)] at hl;cases hl
    exact e
   show(aJ a.key (last+1) 5&&dB (bI vy a.key)&&ez a.key _)=true;rw[dq,show aJ a.key (last+1) 5=true by simp[aJ];omega,Bool.true_and,Bool.true_and];exact Mw vy U hp.2 (λx hx=>⟨by have:=hp.1 x hx;unfold gZ at this;rwa[decide_eq_true_eq] at this,(hk x (by simp[hx])).2⟩) qx
  rw[List.nil_append];exact Mw vy U hp.2 (λx hx=>hk x (by simp[hx])) qx
structure bX (w:ai):Prop where
 time:0<=w.time
 aC:w.aC.length=4
 site:∀i,i<4->(ab w.aC i).site=(i:Int)/\bJ (ab w.aC i)
 al:w.al.length<=60
 words:∀m∈w.al,bK m=true
 seen:w.seen.length=2
 kG:∀l∈w.seen,bT l=true
 calls:jr w.calls w.time=true
def fD {w:ai}:cK w=true↔bX w/\w.time<=99999:=by
 unfold cK oQ;simp only[Bool.and_eq_true];rw[gF];have e1:(!hasB yP w.al)=true↔∀m∈w.al,bK m=true:=by
  rw[Bool.not_eq_true',FQ];unfold yP;simp
 have e2:(!hasB yA w.seen)=true↔∀l∈w.seen,bT l=true:=by
  rw[Bool.not_eq_true',FQ];unfold yA;simp
 have e3:(!(!aJ w.time 0 99999||((w.aC.length:Int) !=4)||decide (60<(w.al.length:Int))||((w.seen.length:Int) !=2)))=true↔(0<=w.time/\w.time<=99999)/\w.aC.length=4/\w.al.length<=60/\w.seen.length=2:=by
  simp only[Bool.not_eq_true',Bool.or_eq_false_iff,Bool.not_eq_false',aJ,Bool.and_eq_true,decide_eq_true_eq,decide_eq_false_iff_not,bne_eq_false_iff_eq];omega
 rw[e1,e2,e3];have e4:∀i,sD w i=true↔(ab w.aC i).site=(i:Int)/\bJ (ab w.aC i):=λi=>by
  unfold sD;rw[Bool.and_eq_true,beq_iff_eq,jX]
 constructor
 .rintro⟨⟨⟨⟨⟨⟨a1,a2⟩,a3,a4,a5⟩,a6⟩,a7⟩,a8⟩,a9⟩;exact⟨⟨a1,a3,λi hi=>(e4 i).1 (a6 i om),a4,a7,a5,a8,a9⟩,a2⟩
 rintro⟨h,ht⟩;exact⟨⟨⟨⟨⟨⟨h.time,ht⟩,h.aC,h.al,h.seen⟩,λi hi=>(e4 i).2 (h.site i (by rw[h.aC] at hi;exact hi))⟩,h.words⟩,h.kG⟩,h.calls⟩
def bX.send {w:ai} (h:bX w) {more:List az} (hm:∀m∈more,bK m=true):bX {w with al:=eN w.al more}:=
 ⟨h.time,h.aC,h.site,ad8 h.al,ad9 h.words hm,h.seen,h.kG,h.calls⟩
def bX.server {w:ai} (h:bX w) {i:Nat} (hi:i<4) {s:Server} (U:bJ s) (he:s.site=(ab w.aC i).site):bX {w with aC:=w.aC.set i s}:=by
 refine⟨h.time,by show(w.aC.set _ _).length=4;rw[List.length_set];exact h.aC,λj hj=>?_,h.al,h.words,h.seen,h.kG,h.calls⟩;show(ab (w.aC.set i s) j).site=j/\bJ (ab (w.aC.set i s) j);rw[fC (by rw[h.aC];exact hi)];split
 .subst_vars;exact⟨he.trans (h.site _ hi).1,U⟩
 exact h.site j hj
def bX.agh {w:ai} (h:bX w) (i:Nat) {l:List aw} (hl:bT l=true):bX {w with seen:=w.seen.set i l}:=
 ⟨h.time,h.aC,h.site,h.al,h.words,by show(w.seen.set _ _).length=2;rw[List.length_set];exact h.seen,λx hx=>by
  rcases List.mem_or_eq_of_mem_set hx with hx|rfl
  .exact h.kG x hx
  exact hl,h.calls⟩
def agi (s:Server) (m:az):(gu s m).1.site=s.site:=by
 unfold gu;split
 .dsimp only;split
  .split
   .exact AQ _
   rfl
  exact AQ _
 rfl
def Bf:cK dT=true:=by decide
def Vm (l:List aA) (v:aA) (hc:ct l=true):
 Fn prog 359 [bU l,v.av] (AV.dG [bU (if iO l v then fJ l v else l),AV.bool (iO l v)]):=by
 refine Fn.go 29 func359 ntmps359 (λW I a U=>?_);have hle:=U.eE (t:=0) rfl;have CN:=ga hc;have iv:=ob hc;refine bx λI a w U=>?_;refine U.o (.cl (Bc ..)) λU=>?_;refine aB λI a w U=>?_;refine U.cd (λae=>?_) λae=>?_
 .exfalso;rw[hc] at ae;cases ae;skip
 refine bD λI a w U=>?_;refine U.o (.c1 (Mn ..)) λU=>?_;refine bx λI a w U=>?_;refine U.q .F (.cl (nA ..)) λU=>?_;refine U.q .F (.cl (oH ..)) λU=>?_;refine jW λI a w U=>?_;refine U.cd (λah=>?_) λah=>?_
 .rw[S5,S6 v hc] at ah;replace ah:=nt ah;refine bD λI a w U=>?_;refine U.o (bO (kQ.fn (xd l om (λu hu=>by have:=iv u hu;omega))) (ax .r aH)) λU=>?_;refine c8 ?_;exact(by rw[ah];rfl)
 rw[S5,S6 v hc] at ah;replace ah:=nf ah;refine aG λI a w U=>?_;refine U.o (bO (GQ l v om (λu hu=>by have:=iv u hu;omega) (by have:=iV (Kf (wY ah).1);omega)) (ax .r (ax (.t rfl) aH))) λU=>?_;refine c8 ?_;exact(by rw[ah];rfl)
def agj (s:Server) (m:az) (ao:fK s) (ho:s.aE.length<=80) (hm:bK m=true):
 Fn prog 312 [s.av,m.av] ((jw s m).av):=by
 refine Fn.go 57 func312 ntmps312 (λW I a U=>?_);have ka:=sj (Ds hm);have h3:=ao.aD;have GS:=λh=>TE (l:=s.aE) (d:=⟨m.key,m.ar⟩) h;refine sr<|U.box rfl .tt λb2 I a w U=>U.o .bp λU=>U.alloc rfl cA dS λb4 I a w U=>?_;refine dZ λI a w U=>?_;refine U.o (.bd gX (.k (.t aZ.nil))) λU=>?_;refine U.o (.cl (CO s.aE ⟨m.key,m.ar⟩)) λU=>?_;refine aB λI a w U=>?_;refine U.dk ?_;refine cG ?_;refine .o (.c1 (tQ ..)) ?_;refine eb ?_;refine .q .F (.cl (sI ..)) ?_;refine cG ?_;refine .q .F (.cl (sI ..)) ?_;refine Q3 ?_;refine .q .F (.cl (wT ..)) ?_;refine fZ ?_;refine .nil ?_;intro I a w U;refine bm ?_;refine U.cd (λae=>?_) λae=>?_
 .rw[Sd s m] at ae;replace ae:=nt ae;refine aF λI a w U=>?_;refine U.ret rfl (.cons (.sx 1) aV.nil) ?_;exact(by unfold jw;rw[ae];rfl)
 rw[Sd s m] at ae;replace ae:=nf ae;refine zt ?_;have U:=U.jj;refine U.gG (rp 2 (([0],none)::rp 2 (([2],some (2,[48]))::([],none)::([0],none)::rp 3 [([2],some (2,[])),([],none),([0],some (0,[]))]))) aO aO rfl ?_;refine .o (wH dX cW) ?_;refine bG ?_;refine .r [0] (.lb 0) ?_;refine bG ?_;refine .o (B5 dX cW .r .tt (λ_=>by simp only[B] at ae;have h9:=GS om;simp only[List.length_map];omega)) ?_;refine bc.Cn 2 rfl rfl dX cW rfl .tt .r ig ?_;refine bG ?_;refine .r [0] (.lb 0) ?_;refine bG ?_;refine .o (lW .tt .c (λ_=>by simp only[B] at ae;have h9:=GS om;omega)) ?_;refine .o (E0 dX cW .r .tt (λ_=>by simp only[B] at ae;have h9:=GS om;simp only[List.length_map];omega)) ?_;refine bc.Fe 2 rfl rfl dX cW rfl .r ig ?_;refine bG ?_;refine bc.ji (x:=AV.any) 0 (λF W0 I0 I γ a w Q U kk=>U.s1 0 λU=>kk _ _ _ U) ?_;refine .nil ?_;intro I a w U;rw[<-List.map_take,<-List.map_drop,<-List.map_append] at U;refine aF λI a w U=>?_;refine U.ret rfl (.cons (.sx 1) aV.nil) ?_;exact(by unfold jw;rw[ae];have h9:=GS (by simp only[B] at ae;omega);rw[show((fy s.aE ⟨m.key,m.ar⟩)+1).toNat=(fy s.aE ⟨m.key,m.ar⟩).toNat+1 by simp only[B] at ae;omega];rfl)
def Mx {s:Server} {m:az} (h:pQ s m=true):(eh s m.slot).an.length+m.an.length<=80/\(eh s m.slot).waits.length+m.waits.length<=80/\(eh s m.slot).aE.length+m.aE.length<=80:=by
 unfold pQ at h;simp only[Bool.and_eq_true,decide_eq_true_eq] at h;exact⟨h.1.1,h.1.2,h.2⟩
def Vn (l vs:List aA) (hc:ct l=true) (hv:ct vs=true):
 Fn prog 366 [bU l,bU vs] (AV.dG [bU (jx l vs),AV.bool (decide (l.length+vs.length<=80))]):=by
 refine Fn.go 33 func366 ntmps366 (λW I a U=>?_);have hl:=ga hc;have qm:=ga hv;have iv:=ob hc;have uv:=ob hv;have tx:=(vw.1 hv).2.2;refine bk λI a w U=>?_;refine U.o (bO (kQ.fn (xd l om (λu hu=>by have:=iv u hu;omega))) (ax .r aH)) λU=>?_;refine aX λI a w U=>?_;refine St.lo (σ:=Nat) (6::(8::(run 13 13 []))) ⟨λk=>[(13,AV.int k),(6,bU (jx l (vs.take k)))],λk=>[],λk=>k<=vs.length⟩ (λk=>vs.length-k) 0 U ?aI ?bF;case aI=>exact Nat.zero_le _
 rintro k I a w ao U;have hk:k<=vs.length:=ao;refine aB λI a w U=>?_;refine cz (λae=>?_) λae=>?_
 .refine aG λI a w U=>?_;refine U.alloc rfl bL ee λb8 I a w U=>?_;refine aB λI a w U=>?_;obtain⟨I,U⟩:=U.fb 0 8;refine aG λI a w U=>?_;refine U.o (.c1 (nA ..)) λU=>?_;refine U.o (.cl (oH ..)) λU=>?_;refine aB λI a w U=>?_;refine cz (λah=>?_) λah=>?_
  .refine aG λI a w U=>?_;refine U.o (bO (GQ (jx l (vs.take k)) (ab vs k) (by have:=KG l vs k;omega) (λu hu=>by have:=ade iv uv k u hu;omega) (by have:=uv _ (bh ae);omega)) (ax .r (ax (.t rfl) aH))) λU=>?_;refine aR λI a w U=>?_;have U:=U.drop 0;refine U.again (k+1) ?hO ?hP dR ?hZ (by repeat(first|exact Env.le_rfl|refine Env.iy rfl ?_));case hO=>omega
   case hP=>exact ae
   case hZ=>exact(Env.dA rfl dR (Env.dA rfl (by first|exact congrArg bU (SF tx ae ah)|exact congrArg bU (SG ae om)) Env.le_nil))
  refine aF λI a w U=>?_;have U:=U.drop 0;refine U.again (k+1) ?mV ?mW dR ?mX (by repeat(first|exact Env.le_rfl|refine Env.iy rfl ?_));case mV=>omega
  case mW=>exact ae
  case mX=>exact(Env.dA rfl dR (Env.dA rfl (by first|exact congrArg bU (SF tx ae ah)|exact congrArg bU (SG ae om)) Env.le_nil))
 refine zt ?_;refine oE λI a w U=>?_;refine U.rt ?_;exact(by rw[List.take_of_length_le om,aea];rfl)
def agk (s:Server) (m:az):(gu s m).2.length<=1:=by
 unfold gu;split
 .dsimp only;split
  .split<;>simp
  simp
 simp
def agl (site:Nat) (h4:site<4):
 Fn prog 155 [AV.int (site:Int)] ((yB site).av):=by
 refine Fn.go 30 func155 ntmps155 (λW I a U=>?_);have Cp:cM (site:Int)=true:=jy.2 om;refine sr<|U.alloc rfl cA dS λb2 I a w U=>?_;refine bD λI a w U=>?_;refine U.o (.c1 (tQ ..)) λU=>?_;refine aB λI a w U=>?_;refine U.cd (λae=>?_) λae=>?_
 .exfalso;rw[Cp] at ae;cases ae;skip
 refine bD λI a w U=>?_;refine U.o (.bd Fx (.k (.k aZ.nil))) λU=>?_;refine U.alloc rfl cA Fx λb3 I a w U=>?_;refine aB λI a w U=>?_;have U:=U.ik (sz:=2) 97;refine aB λI a w U=>?_;refine St.lo (σ:=Nat×Value) (run 2 4 (run 17 12 [])) ⟨λ⟨k,v⟩=>[(4,AV.int k)],λ⟨k,v⟩=>[Own.box b2 95 [AV.val (.int .i64 0),AV.val (.bool false),AV.rows 2 [],AV.rows 7 [],AV.rows 7 [],AV.rows 3 [],AV.rows 3 []],Own.box b3 95 [AV.int (site:Int),AV.bool true,AV.val v,AV.val (.slice none 0 0),AV.val (.slice none 0 0),AV.val (.slice none 0 0),AV.val (.slice none 0 0)],Own.row v 97 2 ((uq site k).map de.cells)],λ⟨k,v⟩=>k<=3⟩ (λ⟨k,v⟩=>3-k) (0,.slice none 0 0) U ?aI ?bF;case aI=>exact Nat.zero_le _
 rintro⟨k,v⟩ I a w ao U;have hk:k<=3:=ao;dsimp only at U;refine aF λI a w U=>?_;refine cz (λah=>?_) λah=>?_
 .refine zt ?_;refine U.o (.bd oF aZ.nil) λU=>?_;refine U.alloc rfl fh oF λb5 I a w U=>?_;refine aG λI a w U=>?_;refine U.o (uW .tt .c (λ_=>by omega)) λU=>?_;refine U.m λU=>?_;refine U.o (uW .tt .c (λ_=>by omega)) λU=>?_;refine aB λI a w U=>?_;refine cz (λaq=>?_) λaq=>?_
  .refine St.region ?_;refine U.o (.bd oF (.k (.k aZ.nil))) λU=>?_;refine bx λI a w U=>?_;refine U.o (.li [de.cells ⟨1,1⟩] Fz (.u .nil)) λU=>?_;refine U.append 2 rfl gQ fh rfl .tt .r rfl (by rw[List.length_map,Gr];simp;omega) λMy a w U=>?_;refine U.o .fv λU=>?_;try have agm:=U.fI 2 rfl
   refine aX λI a w U=>?_;have U:=U.drop 3;rw[cJ,TO (by simpa using aq)] at U;exact U.ag (k+1,My) (by show k+1<=3;omega)
  refine bk λI a w U=>?_;refine U.o (.li [de.cells ⟨0,0⟩] Fz (.u .nil)) λU=>?_;refine U.append 2 rfl gQ fh rfl .tt .r rfl (by rw[List.length_map,Gr];simp;omega) λMy a w U=>?_;refine U.o .fv λU=>?_;try have agm:=U.fI 2 rfl
  refine aX λI a w U=>?_;have U:=U.drop 3;rw[cJ,TP (by simpa using aq)] at U;exact U.ag (k+1,My) (by show k+1<=3;omega)
 refine wp_exit<|cB<|cB<|fo<|bm<|wp_seq ?_;obtain⟨I,U⟩:=U.fu 2 2 1;have U:=U.nY (q:=3) 1 rfl rfl (fN 7 _);have U:=U.nY (q:=4) 1 rfl rfl (fN 7 _);have U:=U.nY (q:=5) 1 rfl rfl (fN 3 _);have U:=U.nY (q:=6) 1 rfl rfl (fN 3 _);refine aF λI a w U=>?_;refine U.ret rfl (.cons (.sx 0) aV.nil) ?_;have kY:k=3:=by omega
 subst kY;rfl
def Vo {q:Call} {t:Int} (h:gf q (q.bH+q.end_)=true) (he:0<=q.end_):(!gf q (q.bH+q.end_)||decide (0<q.end_)||q.over)=!bV q:=by
 rw[h];unfold bV;have e:decide (0<q.end_)=!(q.end_==0):=by rw[Bool.eq_iff_iff];simp;omega
 rw[e];simp
def agn {q:Call} {a:Answer} {k:Nat} (h:k<q.aL.length) (he:ab q.aL k=a.aY.aU):qQ q a (k+1)=q.au.set (cv q a.key).toNat a:=by
 unfold qQ;rw[if_pos ((Lq h).2 (.inr he.symm))]
def bX.Vp {w:ai} (h:bX w) {i:Nat} (hi:i<2):(ab w.seen i).length<=6:=iV (h.kG _ (bh (by rw[h.seen];exact hi)))
def Vq {w:ai} (h:bX w) (e:Ev):bX {w with al:=jo w e}:=by
 unfold jo;split
 .have U:=Ax w.al e.word.toNat;exact⟨h.time,h.aC,h.site,Nat.le_trans U.length_le h.al,λm hm=>h.words m (U.subset hm),h.seen,h.kG,h.calls⟩
 exact h
def xy {w:ai} (hg:bX w) {i:Nat} (hi:i<4) (s:Server) (j:Nat):sv (eB w i s) j=if j=i then s else sv w j:=fC (by rw[hg.aC];exact hi)
def o7 {w:ai} (hg:bX w) {i:Nat} (hi:i<4) (s:Server):sv (eB w i s) i=s:=by rw[xy hg hi,if_pos rfl]
def Bg {w:ai} (hg:bX w) {i:Nat} (hi:i<4) (s:Server) {j:Nat} (hj:j≠i):sv (eB w i s) j=sv w j:=by rw[xy hg hi,if_neg hj]
def Vr {w:ai} (hg:bX w) {i:Nat} (hi:i<4) (s:Server):sv (eB w i s) (bP i)=sv w (bP i):=Bg hg hi s (Lv i)
def Vs {w:ai} (hg:bX w) {i:Nat} (hi:i<4) {s:Server} (U:bJ s) (he:s.site=(sv w i).site):bX (eB w i s):=hg.server hi U he
def GU {f:ai->Nat->ai} {n:Int} (hn:0<=n) (hf:∀x i,bX x->x.time<=96000->bX (f x i)/\(f x i).time<=x.time+n):∀(l:List Nat) {x:ai},bX x->x.time+n*(l.length:Nat)<=96000->bX (l.foldl f x)/\(l.foldl f x).time<=x.time+n*(l.length:Nat)
 |[],x,h,_=>⟨h,by simp⟩
 |i::r,x,h,ht=>by
  have h3:n*((r.length+1:Nat):Int)=n*(r.length:Nat)+n:=by rw[Int.natCast_add,Int.mul_add];simp
  have h4:0<=n*(r.length:Nat):=Int.mul_nonneg hn om;rw[List.length_cons] at ht⊢;have h1:=hf x i h om;have h2:=GU hn hf r h1.1 om;rw[List.foldl_cons];exact⟨h2.1,by omega⟩
def ago {x:ai} (ao:cK x=true):x.seen.length=2:=(Mu ao).2.2.2.1
def agp {x:ai} (mu:cK x=true) {s:Int} (h0:0<=s/\s<=1):(∀v∈cg x s,dN v=true)/\(cg x s).length<=160:=by
 have ca:=(o6 mu (i:=(2*s).toNat) om).1;have cb:=(o6 mu (i:=(2*s+1).toNat) om).1;refine⟨λv hv=>(w4 hv).elim (fw cb v) (fw ca v),?_⟩;have:=w5 (ab x.aC (2*s+1).toNat).an (ab x.aC (2*s).toNat).an;have l1:=ga ca;have l2:=ga cb;unfold cg;omega
end Go.Proofs.YtldbakcpcfdlaaaGreat
