/- Part 12: contracts of functions, plain facts. -/
import Derived.Test.YtldbakcpcfdlaaaGreatA11
set_option linter.all false
set_option maxRecDepth 100000
set_option maxHeartbeats 4000000
namespace Go.Proofs.YtldbakcpcfdlaaaGreat
open Go Go.RowKit Tryz
attribute [local irreducible] wpList Code.wp Ok
def tz (s:cA):
 Fn prog 190 [s.av] (AV.bool (dW s)):=by
 refine Fn.go 6 func190 ntmps190 (λW I a U=>?_);refine bc λI a w U=>?_;refine U.o (.bd gx aT.nil) λU=>?_;refine U.o (lF [_,_] [_,_] mu rfl rfl .tt .tt) λU=>?_;refine bk ?_;exact bI (by simp[dW])
def Vn {α:Type} (p:α->Bool) (l:List α):-1<=di p l:=by unfold di;split<;>omega
def LN {a b:cA} (h:c8 a b=false) (h':c8 b a=false):a=b:=by
 obtain⟨t,s⟩:=a;obtain⟨t',s'⟩:=b;simp[c8] at h h';simp;omega
def Vo {a b:cA} (h:c8 a b=true):c8 b a=false:=by
 obtain⟨t,s⟩:=a;obtain⟨t',s'⟩:=b;simp[c8] at h⊢;omega
def AW (e d:an) (h:e.key=d.key):(if c8 d.ax e.ax then e else d)=(if c8 e.ax d.ax then d else e):=by
 cases h1:c8 d.ax e.ax
 .cases h2:c8 e.ax d.ax
  .have:=LN h1 h2;obtain⟨k,s⟩:=e;obtain⟨k',s'⟩:=d;simp at this h⊢;exact⟨h.symm,this⟩
  simp
 rw[Vo h1];simp
def LO (d:an):bP [d]=gU d:=by simp[bP,dm,gU,cY]
def rW (l:List Int) (k:Nat):Int:=if k=0 then-1 else ab l (k-1)
def Vp (l:List Int) (k:Nat):rW l (k+1)=ab l k:=by simp[rW]
def LP (a:Answer):((a.yes&&(!eD a.bF||(a.bF.key !=a.key)))||(!a.yes&&!pB a.bF rP))=!dH a:=by
 unfold dH;cases a.yes<;>simp[bne]
def tC (a:Answer):Bool:=if a.yes then eD a.bF&&(a.bF.key==a.key) else cY a.key&&pB a.bF rP
def rX (c:Call) (i:Nat):Bool:=tC (ab c.az i)&&et (λa=>gz c.keys a.key) fS c.az i
def rY {s:cA} (h:c7 s=true):1<=s.time:=by simp[c7,aQ] at h;omega
def gM:cA:=⟨0,0⟩
def LQ {s:cA} (h:1<=s.time):c8 gM s=true:=by
 obtain⟨t,u⟩:=s;have h:(1:Int)<=t:=h;have e:decide ((0:Int)<t)=true:=decide_eq_true om;show(decide ((0:Int)<t)||_)=true;rw[e];rfl
def Vq {s:cA} (h:1<=s.time):c8 s gM=false:=by
 obtain⟨t,u⟩:=s;have h:(1:Int)<=t:=h;show(decide (t<(0:Int))||((t==(0:Int))&&decide (u<(0:Int))))=false;have e:decide (t<(0:Int))=false:=decide_eq_false om;have e2:(t==(0:Int))=false:=by simp;omega
 rw[e,e2];rfl
def LR {a:Answer} {s:cA} (h:dH a=true) (U:c7 s=true):my a s=c8 a.bF.ax s:=by
 unfold dH at h;unfold my;cases hy:a.yes
 .rw[hy] at h;simp[pB] at h;have:=rY U;rw[h,show c8 rP.ax s=true from LQ this];rfl
 simp
def vX (c:Call):Bool:=!(((c.kind==1)&&decide (0<(c.az.length:Int)+c.aL.length))||((c.kind==2)&&(decide (0<c.val)||!dW c.ax))||!jO c.ax||decide ((c.keys.length:Int)<c.az.length))
def AX (c:Call):Bool:=!(decide (0<(c.aL.length:Int))&&decide ((c.az.length:Int)<c.keys.length))
def AY (c:Call) (time:Int):Bool:=if c.end_=0 then dW c.ax else !c.over&&aQ c.end_ (c.bq+1) time&&((c.aL.length:Int)==0)&&(((c.kind==1)&&c7 c.ax)||((c.kind==2)&&((c.az.length:Int)==c.keys.length)))
def LS (n m:Nat):((n:Int)==m)=decide (n=m):=by
 rw[Bool.eq_iff_iff];simp;omega
def Vr (n:Nat):((n:Int)==0)=decide (n=0):=by
 rw[Bool.eq_iff_iff];simp
def Vs {n m:Nat} (h:n<=m):decide ((n:Int)<m)=!decide (n=m):=by
 rw[Bool.eq_iff_iff];simp;omega
def EX (l:List Call):fT l 0=λ_=>0:=by funext x;simp[fT]
def qM {l:List Call} {k:Nat} (h:k<l.length) (x:Int):fT l (k+1) x=if(ab l k).aA=x then fT l k x+1 else fT l k x:=by
 unfold fT;rw[dO h,List.filter_append,List.length_append];by_cases hx:(ab l k).aA=x<;>simp[hx]
def Vt {l:List Call} {k:Nat} (h:k<l.length):(λy=>if y=(ab l k).aA then fT l k (ab l k).aA+1 else fT l k y)=fT l (k+1):=by
 funext y;rw[qM h];by_cases hy:y=(ab l k).aA
 .subst hy;simp
 rw[if_neg hy,if_neg λh=>hy h.symm]
def EY {a b:cA} (h:∀x,c8 x a=c8 x b):a=b:=by
 have h1:=h a;have h2:=h b;have e:∀s:cA,c8 s s=false:=λs=>by simp[c8]
 rw[e] at h1 h2;exact LN h1.symm h2
def qN (s:cA):Prop:=s=gM\/c7 s=true
def pI (out:List an) (a:Answer):List an:=if a.yes then fR out ⟨a.key,a.bF.ax⟩ else out
def Vu {c:Call} {t t':Int} (h:eY c t=true) (ht:t<=t'):eY c t'=true:=by
 simp only[eY,ko,Bool.and_eq_true] at h⊢;have h1:aQ c.bq 1 t'=true:=by
  have:=h.1.1.1.1.2;simp[aQ] at this⊢;omega
 have h2:mz c t'=true:=by
  have:=h.2;unfold mz at this⊢;split
  .rename_i he;rwa[if_pos he] at this
  rename_i he;rw[if_neg he] at this;have e:aQ c.end_ (c.bq+1) t'=true:=by
   simp[aQ] at this⊢;omega
  have e':aQ c.end_ (c.bq+1) t=true:=by
   simp[aQ] at this⊢;omega
  rw[e];rwa[e'] at this
 exact⟨⟨⟨⟨⟨h.1.1.1.1.1,h1⟩,h.1.1.1.2⟩,h.1.1.2⟩,h.1.2⟩,h2⟩
def lh (s:Server) (m:aw) (o:Option aD):aw:={bW with kind:=4,aY:=s.site,to:=m.aY,call:=m.call,key:=m.key,ax:=m.ax,yes:=o.isSome,ar:=o.toList}
def qO (s:Server) (m:aw):Bool:=
 let x:=eb s m.slot
 decide (x.ar.length+m.ar.length<=80)&&decide (x.waits.length+m.waits.length<=80)&&decide (x.aE.length+m.aE.length<=80)
def AZ:Call:=⟨0,0,0,[],0,[],0,0,false,⟨0,0⟩,[],[]⟩
def dB (m:aw):Answer:=⟨m.key,m.yes,if m.yes then ab m.ar 0 else rP⟩
def eC (au more:List aw):List aw:=au++more.take (60-au.length)
def rZ (aA:Int) (q:Call):Bool:=(q.aA==aA)&&(q.end_==0)&&!q.over
def cw (calls:List Call) (aA:Int):Int:=di (rZ aA) calls
def A0 (l:List an) (d:an) (hl:bP l=true) (hd:gU d=true):
 Fn prog 243 [bf l,d.av] (bf (fR l d)):=by
 refine Fn.go 85 func243 ntmps243 (λW I a U=>?_);have pJ:=dY hl;have vY:=LO d;refine sr<|U.box rfl .tt λb3 I a w U=>?_;refine aF λI a w U=>?_;refine U.o (.cl (m7 ..)) λU=>?_;refine bc λI a w U=>?_;refine U.q .F (.li [_] eJ (.u .nil)) λU=>?_;refine U.q .F (.cl (m7 [d])) λU=>?_;refine aq λI a w U=>?_;refine U.cd (λae=>?_) λae=>?_
 .exfalso;rw[hl,vY,hd] at ae;cases ae;skip
 refine zt ?_;refine U.l0 λA1 I a w U=>?_;refine aM λI a w U=>?_;refine St.lo (σ:=Nat×Bool×List an×Value×an) (run 3 5 (run 59 19 [])) ⟨λ⟨k,done,out,v,e⟩=>[(7,AV.int k),(6,AV.bool done),(5,AV.val v)],λ⟨k,done,out,v,e⟩=>[Own.box b3 125 e.cells,Own.row v 125 3 (out.map an.cells)],λ⟨k,done,out,v,e⟩=>iV l d k done out/\e.key=d.key/\(done=false->e=d)⟩ (λ⟨k,done,out,v,e⟩=>l.length-k) (0,false,[],.slice (some ⟨A1,0,none⟩) 0 0,d) U ?aH ?bx;case aH=>exact⟨iV.zero l d,rfl,λ_=>rfl⟩
 rintro⟨k,done,out,v,e⟩ I a w al U;obtain⟨hp,r4,oi⟩:=al;have hk:=hp.hk;have iO:=hp.len;have mZ:done.toNat<=1:=by cases done<;>simp
 dsimp only at U;refine aV λI a w U=>?_;refine cz (λah=>?_) λah=>?_
 .refine ao λI a w U=>?_;refine cz (λaj=>?_) λaj=>?_
  .refine wp_seq<|wp_seq<|U.dk ?_;refine mo ?_;refine .q .T (zs 0 iH .ag rfl rfl rfl) ?_;refine eP ?_;refine .q .T (.cl (tj ..)) ?_;refine aW ?_;refine .nil ?_;intro I a w U;refine ba ?_;refine cz (λaG=>?_) λaG=>?_
   .refine fm λI a w U=>?_;refine U.o (.li [(ab l k).cells] eJ (.u .nil)) λU=>?_;refine U.ap 1 λtD a w U=>?_;rw[bN] at U;refine aM λI a w U=>?_;refine Km (λaK=>?_) λaK=>?_
    .exfalso;simp at aK;skip
    refine aM λI a w U=>?_;exact U.ag (k+1,true,out++[ab l k],tD,ab l k) (by obtain⟨h1,h2⟩:=aj;obtain rfl:=oi h1;subst h1;have h:=(hp.same hl ah aG.1).2;rw[<-AW _ _ aG.1,if_pos aG.2] at h;exact⟨h,aG.1,λh=>by cases h⟩)
   refine aF λI a w U=>?_;refine U.o (.li [e.cells] eJ (.u .nil)) λU=>?_;refine U.ap 1 λtD a w U=>?_;rw[bN] at U;refine aM λI a w U=>?_;refine cz (λbh=>?_) λbh=>?_
   .refine bK λI a w U=>?_;refine U.o (.li [(ab l k).cells] eJ (.u .nil)) λU=>?_;refine U.ap 1 λtE a w U=>?_;rw[bN] at U;refine aV λI a w U=>?_;exact U.ag (k+1,true,(out++[e])++[ab l k],tE,e) (by obtain⟨h1,h2⟩:=aj;obtain rfl:=oi h1;subst h1;exact⟨hp.before hl ah om,rfl,λh=>by cases h⟩)
   refine aM λI a w U=>?_;exact U.ag (k+1,true,out++[e],tD,e) (by obtain⟨h1,h2⟩:=aj;obtain rfl:=oi h1;subst h1;have h:=(hp.same hl ah bh).2;rw[<-AW _ _ bh,if_neg (by rcases aG with h4|h4;exact absurd bh h4;rw[h4];simp)] at h;exact⟨h,rfl,λh=>by cases h⟩)
  refine ao λI a w U=>?_;refine kO (λaZ=>?_) λaZ=>?_
  .refine bK λI a w U=>?_;refine U.o (.li [(ab l k).cells] eJ (.u .nil)) λU=>?_;refine U.ap 1 λtE a w U=>?_;rw[bN] at U;refine aV λI a w U=>?_;exact U.ag (k+1,done,out++[ab l k],tE,e) (⟨hp.step ah om λhd=>by(rcases aj with h|h;(rw[hd] at h;cases h);omega),r4,oi⟩)
  exfalso;simp only[bne_eq_false_iff_eq] at aZ;rcases aj with h|h;(have:=hp.late h k (Nat.le_refl _) ah;omega);omega
  skip
 refine zt ?_;refine aq λI a w U=>?_;refine cz (λbT=>?_) λbT=>?_
 .refine aF λI a w U=>?_;refine U.o (.li [e.cells] eJ (.u .nil)) λU=>?_;refine U.ap 1 λEZ a w U=>?_;rw[bN] at U;refine aM λI a w U=>?_;obtain⟨I,U⟩:=U.fr 1 4;refine U.rt ?_;exact congrArg (AV.rows 3) (by obtain rfl:=oi bT;subst bT;exact hp.nX om▸rfl)
 refine aq λI a w U=>?_;obtain⟨I,U⟩:=U.fr 1 4;refine U.rt ?_;exact congrArg (AV.rows 3) (by subst bT;rw[hp.nW om])
def LU (q:Call):
 Fn prog 228 [q.av] (AV.bool (na q)):=by
 refine Fn.go 10 func228 ntmps228 (λW I a U=>?_);refine td λI a w U=>?_;refine U.rt ?_;rfl
def r5 (u v:aD):Bool:=!((u.key !=v.key)||([u.ax.time,u.ax.site] !=[v.ax.time,v.ax.site])||(u.val !=v.val)||(u.aA !=v.aA)||(u.call !=v.call)||((u.aS.length:Int) !=v.aS.length))
def Vv {α:Type} [Inhabited α] {l m:List α} (h:l.length=m.length) (he:∀i,i<l.length->ab l i=ab m i):l=m:=by
 apply List.ext_getElem h;intro i h1 h2;have:=he i h1;simpa[ab,h1,h2] using this
def LV (d e:an):([d.key,d.ax.time,d.ax.site] !=[e.key,e.ax.time,e.ax.site])=!decide (d=e):=by
 obtain⟨k,⟨t,s⟩⟩:=d;obtain⟨k',⟨t',s'⟩⟩:=e;rw[Bool.eq_iff_iff];simp;omega
def A2 (s:cA):([s.time,s.site]==[0,0])=dW s:=by
 rw[Bool.eq_iff_iff];simp[dW]
def Vw (x:Answer) (h:x.yes=false):(cY x.key&&(x.bF.key==0)&&(x.bF.val==0)&&(x.bF.aA==0)&&(x.bF.call==0)&&dW x.bF.ax&&((x.bF.aS.length:Int)==0))=tC x:=by
 unfold tC;rw[h];obtain⟨k,y,⟨vk,⟨t,s⟩,vv,vc,vl,vd⟩⟩:=x;simp only[pB,rP,dW];rw[Bool.eq_iff_iff];simp;constructor
 .rintro⟨⟨⟨⟨⟨⟨h1,h2⟩,h3⟩,h4⟩,h5⟩,h6⟩,h7⟩;exact⟨h1,h2,h6,h3,h4,h5,h7⟩
 rintro⟨h1,h2,h6,h3,h4,h5,h7⟩;exact⟨⟨⟨⟨⟨⟨h1,h2⟩,h3⟩,h4⟩,h5⟩,h6⟩,h7⟩
def E0 {u v:aD} (h:r5 u v=true):u.aS.length=v.aS.length:=by
 simp only[r5,Bool.not_eq_true',Bool.or_eq_false_iff] at h;have:=h.2;simp at this;omega
def Vx (x:Answer):
 Fn prog 247 [x.av] (AV.bool (tC x)):=by
 refine Fn.go 55 func247 ntmps247 (λW I a U=>?_);refine cn λI a w U=>?_;refine cz (λae=>?_) λae=>?_
 .refine aF λI a w U=>?_;refine U.alloc rfl bL dy λb3 I a w U=>?_;refine ao λI a w U=>?_;obtain⟨I,U⟩:=U.fb 0 3;refine aF λI a w U=>?_;refine U.o (.c1 (rL ..)) λU=>?_;refine SA λI a w U=>?_;refine U.q .T (.bd gx aT.nil) λU=>?_;refine U.q .T (lF [_,_] [_,_] mu rfl rfl .ag .ag) λU=>?_;refine m3 λI a w U=>?_;refine U.rt ?_;exact bI (by rw[<-Vw x ae,<-A2])
 refine aF λI a w U=>?_;refine U.o (.c1 (Ax ..)) λU=>?_;refine m4 λI a w U=>?_;refine U.rt ?_;exact bI (by unfold tC;rw[ae];rfl)
def LW (q:Call):(decide (0<(q.aL.length:Int))&&decide ((q.az.length:Int)<q.keys.length))=!AX q:=by simp[AX]
def LX {l:List Call} {time:Int} {j:Nat} (h:kS l time j=true):(ab l j).num=fT l (j+1) (ab l j).aA:=by
 simp only[kS,Bool.and_eq_true,beq_iff_eq] at h;exact h.1.2
def Vy {n:Nat} (h:(20:Int)<n):decide (n<=20)=false:=by simp;omega
def tF {q:Call} (h:ie q=true) (hk:q.kind=1):0<q.keys.length:=by
 unfold ie at h;rw[Bool.and_eq_true] at h;have:=h.2;simp[hk] at this;omega
def Vz {s:Server} {d:an}:gV s d=true↔∃v∈s.waits,d∈v.aS:=by
 unfold gV;rw[Bool.not_eq_true',<-Bool.not_eq_true,xW (p:=λv=>!ob d v)];have e:∀v:aD,(!ob d v)=true↔d∉v.aS:=λv=>by
  unfold ob;rw[Bool.not_eq_true',decide_eq_false_iff_not,vH]
 constructor
 .intro h;apply Classical.byContradiction;intro hn;exact h λx hx=>(e x).2 λhd=>hn ⟨x,hx,hd⟩
 rintro⟨v,hv,hd⟩ h;exact(e v).1 (h v hv) hd
def VA {s:Server} {key aA call:Int} {v:aD} (h:jT s key aA call=some v):v∈s.ar/\v.key=key/\v.aA=aA/\v.call=call/\ct v.ax.site=ct s.site:=by
 have h1:=List.mem_of_find?_eq_some h;have h2:=List.find?_some h;simp only[oc,Bool.and_eq_true,beq_iff_eq] at h2;exact⟨h1,h2.1.1.1,h2.1.1.2,h2.1.2,h2.2⟩
def dQ.later {q:Call} {t t':Int} (h:dQ q t) (ht:t<=t'):dQ q t':=pG.1 (Vu (pG.2 h) ht)
def r6 {n:Int}:eN n=true↔0<=n/\n<=1:=by simp[eN,aQ]
def VB {n:Int} (h:eN n=true):kH (10+n)=true:=by
 rw[r6] at h;unfold kH aQ;simp;right;omega
def VC {s:cA} (h:c7 s=true):dW s=false:=by
 have:=rY h;unfold dW;rw[Bool.and_eq_false_iff];left;simp;omega
def E1 {q:Call} {m:aw} (hm:bQ m=true) (hv:m.yes=true->m.ar.length=1/\(ab m.ar 0).key=m.key):dH (dB m)=true:=by
 unfold dH dB;dsimp only;cases hy:m.yes
 .simp[pB]
 obtain⟨h1,h2⟩:=hv hy;have:=gP (mD hm).1 _ (bB (l:=m.ar) (k:=0) om);simp[this,h2]
def VD {l:List Call} {t t':Int} (h:iI l t=true) (ht:t<=t'):iI l t'=true:=by
 obtain⟨h1,h2⟩:=tu.1 h;exact tu.2 ⟨h1,λi hi=>⟨(h2 i hi).1.later ht,(h2 i hi).2⟩⟩
def vZ {α:Type} [Inhabited α] {l:List α} {i j:Nat} {x:α} (h:i<l.length):ab (l.set i x) j=if j=i then x else ab l j:=by
 unfold ab;simp only[List.getD_eq_getElem?_getD];rw[List.getElem?_set];by_cases e:i=j
 .subst e;simp[h]
 rw[if_neg e,if_neg λe'=>e e'.symm]
def VE {au more:List aw} (h:au.length<=60):(eC au more).length<=60:=by
 unfold eC;rw[List.length_append,List.length_take];omega
def VF {au more:List aw} (h:∀m∈au,bQ m=true) (h':∀m∈more,bQ m=true):∀m∈eC au more,bQ m=true:=λm hm=>by
 unfold eC at hm;rcases List.mem_append.1 hm with hm|hm
 .exact h m hm
 exact h' m (List.mem_of_mem_take hm)
def cr.later {w:aJ} (h:cr w):cr {w with time:=w.time+1}:=
 ⟨by have:=h.time;show 0<=w.time+1;omega,h.aC,h.site,h.au,h.words,h.seen,h.od,VD h.calls (by show w.time<=w.time+1;omega)⟩
def cr.send {w:aJ} (h:cr w) {more:List aw} (hm:∀m∈more,bQ m=true):cr {w with au:=eC w.au more}:=
 ⟨h.time,h.aC,h.site,VE h.au,VF h.words hm,h.seen,h.od,h.calls⟩
def cr.server {w:aJ} (h:cr w) {i:Nat} (hi:i<4) {s:Server} (U:bA s) (he:s.site=(ab w.aC i).site):cr {w with aC:=w.aC.set i s}:=by
 refine⟨h.time,by show(w.aC.set _ _).length=4;rw[List.length_set];exact h.aC,λj hj=>?_,h.au,h.words,h.seen,h.od,h.calls⟩;show(ab (w.aC.set i s) j).site=j/\bA (ab (w.aC.set i s) j);rw[vZ (by rw[h.aC];exact hi)];split
 .subst_vars;exact⟨he.trans (h.site _ hi).1,U⟩
 exact h.site j hj
def v3 (s:Server):(gW s).site=s.site:=(xY s).1
def VG (s:Server) (m:aw):(gX s m).1.site=s.site:=by
 unfold gX;split
 .split
  .rfl
  split
  .exact v3 _
  rfl
 rfl
def VH (s:Server) (m:aw):(gY s m).1.site=s.site:=by
 unfold gY;split
 .dsimp only;split
  .split
   .exact v3 _
   rfl
  exact v3 _
 rfl
def VI (v:Value) (l:List (List AV)) (x:List AV) (i:Nat) (hi:i<=l.length) (hl:l.length<=1048576) (dP:∀r∈l,r.length=3) (hx:x.length=3):
 fQ prog 361 [AV.val v,AV.int i,AV.rows 3 [x]] [Own.row v 125 3 l] [] (AV.rows 3 (l.take i++x::l.drop i)):=by
 refine fQ.intro 95 func361 rfl ntmps361 rfl aP (λW I a U=>?_);obtain⟨q,cap,rfl,kD⟩:=U.xv 0 rfl;refine bc λI a w U=>?_;refine U.o (DE c4 cx .tt .tt ⟨by omega,by omega⟩ kD) λU=>?_;refine bw λI a w U=>?_;refine U.o (wQ c4 .tt) λU=>?_;rw[show(([x]:List (List AV)).length:Int)=1 from rfl] at U;refine aM λI a w U=>?_;refine U.cd (λae=>?_) λae=>?_
 .exfalso;simp at ae;skip
 refine iU λI a w U=>?_;refine cz (λah=>?_) λah=>?_
 .refine aF λI a w U=>?_;refine U.append 0 rfl c4 cx rfl .tt .tt rfl (by simp only[List.length_singleton];omega) λtG a w U=>?_;obtain⟨I,U⟩:=U.fr 0 25;have U:=U.drop 0;refine ao λI a w U=>?_;refine U.qv rfl (.cons .x .nil) rfl ?_;exact congrArg (AV.rows 3) (by rw[show i=l.length by omega];simp)
 refine bj λI a w U=>?_;refine U.o (DG c4 .tt) λU=>?_;refine ao λI a w U=>?_;refine cz (λaj=>?_) λaj=>?_
 .refine zt ?_;have bH:l≠[]:=by intro e;rw[e] at hi ah;simp at hi ah;omega
  obtain⟨b,l7,he,l8,l9,kQ,U⟩:=U.qn 0 rfl bH;simp only[Value.slice.injEq] at he;obtain⟨rfl,_,rfl⟩:=he;have hA:(l.take i).flatten.length=i*3:=by rw[fM λr hr=>dP r (List.mem_of_mem_take hr),List.length_take,Nat.min_eq_left hi]
  have hB:(l.drop i).flatten.length=(l.length-i)*3:=by rw[fM λr hr=>dP r (List.mem_of_mem_drop hr),List.length_drop]
  rw[show l.flatten=(l.take i).flatten++(l.drop i).flatten by rw[<-List.flatten_append,List.take_append_drop],List.map_append] at U;have fG:([x]:List (List AV)).flatten.length=3:=by simpa using hx
  have hlen:(l.take i++x::l.drop i).length=l.length+1:=by simp;omega
  have lf:∀r∈l.take i++x::l.drop i,r.length=3:=λr hr=>(List.mem_append.1 hr).elim (λh=>dP r (List.mem_of_mem_take h)) λh=>(List.mem_cons.1 h).elim (λe=>e▸hx) λh=>dP r (List.mem_of_mem_drop h);have oj:(l.take i++x::l.drop i).flatten.map some=(l.take i).flatten.map some++([x]:List (List AV)).flatten.map some++(l.drop i).flatten.map some:=by simp
  refine aF λI a w U=>?_;refine U.o (qt (hi:=i) c4 cx .tt .tt rfl om om) λU=>?_;refine bK λI a w U=>?_;refine U.DH (iS:=l.length+1-i) (xs:=(l.take i).flatten) 0 c4 nP cx rfl aO .tt .tt om om rfl (by rw[List.drop_zero,List.append_assoc];exact jt _ (List.length_map _)) hA om om om rfl λ{gb yg a w} sO rH U=>?_;refine bc λI a w U=>?_;refine U.o (ji (lo:=i) c4 cx .tt .tt rfl om om) λU=>?_;refine U.m λU=>?_;refine U.ve 1 c4 cx .tt .tt rfl bt (by simp only[List.length_singleton];omega) (by simp only[List.length_singleton,List.length_append,List.length_map,List.length_replicate,hA];omega) rfl λU=>?_;refine zt ?_;refine U.dt 8 ?_;simp only[TD];refine dq ?_;refine .o (ji (lo:=i+1) c4 cx .tt .tt om om om) ?_;refine cg ?_;refine .o (ji (lo:=i) c4 cx .tt .tt rfl om om) ?_;refine .nil ?_;intro I a w U;refine U.vf (xs:=(l.drop i).flatten) 1 0 c4 cx .tt .tt rfl rfl (by rw[List.append_assoc,s6 _ (by simp only[List.length_map,hA];omega)];exact jt _ (List.length_map _)) (by rw[hB,Nat.min_eq_left om]) (by rw[jR (by simp only[List.length_map,List.length_append,List.length_replicate,fG,hA];omega)];simp only[List.length_append,List.length_map,List.length_replicate,hA,hB];omega) rfl λU=>?_;rw[DP (by simp only[List.length_map,hA];omega) (by simp only[List.length_map,fG];omega) (by simp only[List.length_map,List.length_replicate,fG,hB];omega)] at U;have U:=U.qp (l:=l.take i++x::l.drop i) (cap:=yg) 1 rfl (by simp only[List.length_append,List.length_map,List.length_drop,List.length_replicate,hA,hB,fG];omega) lf om om om (by rw[oj,hlen];exact jt _ (by simp only[List.length_append,List.length_map,hA,hB,fG];omega));rw[show i+(l.length+1-i)=(l.take i++x::l.drop i).length by omega] at U;obtain⟨I,U⟩:=U.fr 1 9;have U:=U.drop 0;refine aq λI a w U=>?_;exact U.qv rfl (.cons (by first|exact .t rfl|exact .nil rfl) .nil) rfl rfl
 refine zt ?_;have bH:l≠[]:=by intro e;rw[e] at hi ah;simp at hi ah;omega
 obtain⟨b,l7,he,l8,l9,kQ,U⟩:=U.qn 0 rfl bH;simp only[Value.slice.injEq] at he;obtain⟨rfl,_,rfl⟩:=he;have hA:(l.take i).flatten.length=i*3:=by rw[fM λr hr=>dP r (List.mem_of_mem_take hr),List.length_take,Nat.min_eq_left hi]
 have hB:(l.drop i).flatten.length=(l.length-i)*3:=by rw[fM λr hr=>dP r (List.mem_of_mem_drop hr),List.length_drop]
 rw[show l.flatten=(l.take i).flatten++(l.drop i).flatten by rw[<-List.flatten_append,List.take_append_drop],List.map_append] at U;have fG:([x]:List (List AV)).flatten.length=3:=by simpa using hx
 have hlen:(l.take i++x::l.drop i).length=l.length+1:=by simp;omega
 have lf:∀r∈l.take i++x::l.drop i,r.length=3:=λr hr=>(List.mem_append.1 hr).elim (λh=>dP r (List.mem_of_mem_take h)) λh=>(List.mem_cons.1 h).elim (λe=>e▸hx) λh=>dP r (List.mem_of_mem_drop h);have oj:(l.take i++x::l.drop i).flatten.map some=(l.take i).flatten.map some++([x]:List (List AV)).flatten.map some++(l.drop i).flatten.map some:=by simp
 refine bj λI a w U=>?_;refine U.o (qt (hi:=l.length+1) c4 cx .tt .tt om om om) λU=>?_;refine dp λI a w U=>?_;refine U.o (ji (lo:=i+1) c4 cx .tt .tt om om om) λU=>?_;refine U.overlaps (tR:=4) 0 func370 rfl aP aP aP c4 cx aO .tt bt .tt rfl rfl λU=>?_;refine ao λI a w U=>?_;refine U.cd (λaG=>?_) λaG=>?_
 .refine wp_seq ?_;refine U.dt 8 ?_;simp only[TD];refine dq ?_;refine .o (ji (lo:=i+1) c4 cx .tt .tt om om om) ?_;refine cg ?_;refine .o (ji (lo:=i) c4 cx .tt .tt rfl om om) ?_;refine .nil ?_;intro I a w U;refine U.vf (xs:=(l.drop i).flatten) 0 0 c4 cx .tt .tt rfl rfl (by rw[List.append_assoc,s6 _ (by simp only[List.length_map,hA];omega)];exact jt _ (List.length_map _)) (by rw[hB];congr 1;omega) (by simp only[List.length_append,List.length_map,List.length_replicate,hA,hB];omega) rfl λU=>?_;refine aF λI a w U=>?_;refine U.o (ji (lo:=i) c4 cx .tt .tt rfl om om) λU=>?_;refine U.m λU=>?_;refine U.ve 0 c4 cx .tt .tt rfl bt (by simp only[List.length_singleton];omega) (by rw[jR (by simp only[List.length_map,List.length_append,List.length_replicate,hA,hB];omega)];simp only[List.length_singleton,List.length_append,List.length_map,List.length_replicate,hA,hB];omega) rfl λU=>?_;rw[DO (by simp only[List.length_map,hA];omega) (by simp only[List.length_map,fG];omega) (by simp only[List.length_map,List.length_replicate,fG];omega)] at U;have U:=U.qp (l:=l.take i++x::l.drop i) (cap:=cap) 0 rfl (by simp only[List.length_append,List.length_map,List.length_drop,List.length_replicate,hA,hB,fG];omega) lf om om om (by rw[oj,hlen];exact jt _ (by simp only[List.length_append,List.length_map,hA,hB,fG];omega));rw[show l.length+1=(l.take i++x::l.drop i).length by omega] at U;obtain⟨I,U⟩:=U.fr 0 0;have U:=U.drop 0;refine aq λI a w U=>?_;exact U.qv rfl (.cons (by first|exact .t rfl|exact .nil rfl) .nil) rfl rfl
 exfalso;simp at aG;skip
def VJ (l:List an) (d:an):
 Fn prog 327 [bf l,d.av] (AV.int (gh l d)):=by
 refine Fn.go 19 func327 ntmps327 (λW I a U=>?_);have hle:=U.eh (t:=0) rfl;refine cn λI a w U=>?_;refine St.lo (σ:=Nat) (run 2 4 (run 11 8 [])) ⟨λk=>[(8,AV.int k)],λk=>[],λk=>k<=l.length/\∀i,i<k->(λe=>decide (e=d)) (ab l i)=false⟩ (λk=>l.length-k) 0 U ?aH ?bx;case aH=>exact⟨Nat.zero_le _,λi hi=>by omega⟩
 rintro k I a w al U;obtain⟨hk,aU⟩:=al;refine ao λI a w U=>?_;refine cz (λae=>?_) λae=>?_
 .refine aq λI a w U=>?_;refine U.dk ?_;refine eP ?_;refine .o (lF [_,_,_] [_,_,_] vj rfl rfl .tt .tt)<|.nil ?_;intro I a w U;refine ba ?_;refine U.cd (λah=>?_) λah=>?_
  .rw[xP] at ah;rw[decide_eq_true_eq] at ah;refine dh ?_;exact eW (lK ae aU (decide_eq_true ah.symm)).symm
  rw[xP] at ah;rw[decide_eq_false_iff_not] at ah;refine aq λI a w U=>?_;exact U.ag (k+1) (⟨ae,λi h1=>by rcases Nat.lt_succ_iff_lt_or_eq.1 h1 with h|h;exact aU i h;rw[h];exact decide_eq_false λe=>ah e.symm⟩)
 refine zt ?_;refine bk ?_;exact eW (kR om aU).symm
def yh (l:List an) (d:an):
 Fn prog 293 [bf l,d.av] (AV.bool (decide (0<=gh l d))):=by
 refine Fn.go 9 func293 ntmps293 (λW I a U=>?_);refine bj λI a w U=>?_;refine U.o (.cl (VJ ..)) λU=>?_;refine dh ?_;rfl
def LY (v:aD) (d:an):
 Fn prog 360 [v.av,AV.ptr d.cells] (AV.bool (ob d v)):=by
 refine Fn.go 8 func360 ntmps360 (λW I a U=>?_);refine bK λI a w U=>?_;refine U.o (.cl (yh ..)) λU=>?_;refine bk ?_;rfl
def LZ (s:Server) (slot:Int) (h1:bY s.ar=true) (h2:bY s.waits=true) (h0:cQ s.site=true) (h3:s.aN.length=3) (ot:0<=slot/\slot<3) (ho:s.aE.length<=80):
 Fn prog 317 [s.av,AV.int slot] ((gj s slot).av):=by
 refine Fn.go 63 func317 ntmps317 (λW I a U=>?_);have lens:s.aN.length<=9223372036854775807/\s.ar.length<=9223372036854775807/\s.waits.length<=9223372036854775807/\s.aE.length<=9223372036854775807/\s.bn.length<=9223372036854775807:=⟨U.ln 0 2,U.ln 0 3,U.ln 0 4,U.ln 0 5,U.ln 0 6⟩;refine sr<|U.box rfl .tt λb2 I a w U=>U.alloc rfl cV dr λb4 I a w U=>?_;refine zt ?_;refine U.da 14 ?_;simp only[TD];refine dq ?_;refine .o (.c1 (vE _ h0)) ?_;refine jJ ?_;refine .o (.bd S5 (.k (.k (.k (.k (.k aT.nil)))))) ?_;refine fk.alloc cV dr<|.nil ?_;intro I a w U;obtain⟨b5,U⟩:=U.rF (d:=5) rfl;refine ao λI a w U=>?_;have U:=U.fC (sz:=3) 125;refine bc λI a w U=>?_;refine U.o (.cl (AL _ _ h1)) λU=>?_;refine j3 λI a w U=>?_;refine U.o (.cl (AL _ _ h2)) λU=>?_;refine iU λI a w U=>?_;refine St.lo (σ:=Nat×Value) (6::(run 26 36 [])) ⟨λ⟨k,v⟩=>[(6,AV.int k)],λ⟨k,v⟩=>[Own.box b2 95 s.cells,Own.box b4 108 [AV.val (.int .i64 0),AV.val (.int .i64 0),AV.val (.int .i64 0),AV.val (.int .i64 0),AV.val (.int .i64 0),AV.val (.int .i64 0),AV.val (.int .i64 0),AV.val (.int .i64 0),AV.val (.bool false),AV.rows 3 [],AV.val (.int .i64 0),AV.val (.int .i64 0),AV.rows 7 [],AV.rows 7 [],AV.rows 3 []],Own.box b5 108 [AV.int (gj s slot).kind,AV.int (gj s slot).aY,AV.int (gj s slot).to,AV.int (gj s slot).call,AV.int (gj s slot).key,AV.int (gj s slot).ax.time,AV.int (gj s slot).ax.site,AV.int (gj s slot).val,AV.bool (gj s slot).yes,AV.val (.slice none 0 0),AV.int (gj s slot).slot,AV.int (gj s slot).bU,bV (gj s slot).ar,bV (gj s slot).waits,AV.val v],Own.row v 125 3 (((s.aE.take k).filter (gi slot)).map an.cells)],λ⟨k,v⟩=>k<=s.aE.length⟩ (λ⟨k,v⟩=>s.aE.length-k) (0,.slice none 0 0) U ?aH ?bx;case aH=>exact Nat.zero_le _
 rintro⟨k,v⟩ I a w al U;have hk:k<=s.aE.length:=al;have jr:=pF (gi slot) s.aE k;dsimp only at U;refine cn λI a w U=>?_;refine cz (λae=>?_) λae=>?_
 .refine dp λI a w U=>?_;refine U.o (.c1 (rM ..)) λU=>?_;refine aq λI a w U=>?_;refine U.cd (λah=>?_) λah=>?_
  .change(gi slot) (ab s.aE k)=true at ah;refine U.dt 8 ?_;simp only[TD];refine jJ ?_;refine .o (.li [(ab s.aE k).cells] eJ (.u .nil)) ?_;refine .nil ?_;intro I a w U;refine U.ap 3 λVK a w U=>?_;refine U.o .fv λU=>?_;try have ain:=U.dK 3 rfl
   refine ao λI a w U=>?_;rw[bN,<-lP (p:=(gi slot)) ae ah] at U;refine aM λI a w U=>?_;exact U.ag (k+1,VK) (ae)
  change(gi slot) (ab s.aE k)=false at ah;refine aM λI a w U=>?_;rw[show(s.aE.take k).filter (gi slot)=(s.aE.take (k+1)).filter (gi slot) from(lQ ae ah).symm] at U;exact U.ag (k+1,v) (ae)
 refine wp_exit<|cm<|cm<|dS<|ba<|wp_seq ?_;have U:=U.qf (q:=9) 2 rfl rfl (fA 3 _);obtain⟨I,U⟩:=U.fu 3 14 2;refine aq λI a w U=>?_;refine U.ret rfl (.cons (.sx 1) aX.nil) ?_;exact(by rw[show s.aE.take k=s.aE from List.take_of_length_le om];rfl)
def A3 {α:Type} [Inhabited α] {p:α->Bool} {l:List α} (h:0<=di p l):(di p l).toNat<l.length/\p (ab l (di p l).toNat)=true/\∀i,i<(di p l).toNat->p (ab l i)=false:=by
 unfold di at*;split at h
 .rename_i k hk;obtain⟨h1,h2,h3⟩:=List.findIdx?_eq_some_iff_getElem.1 hk;refine⟨by simpa using h1,by simpa[ab,h1] using h2,λi hi=>?_⟩;have nJ:i<k:=by simpa using hi
  have iG:i<l.length:=by omega
  have:=h3 i nJ;simpa[ab,iG] using this
 omega
def kp {α:Type} (p:α->Bool) (l:List α) (j:Nat):List α:=(l.take j).filter λd=>!p d
def gQ {α:Type} (p:α->Bool) (l:List α) (j:Nat):List α:=kp p l j++l.drop (kp p l j).length
section
variable {α:Type} {p:α->Bool} {l:List α} {j:Nat}
def E2:(kp p l j).length<=j:=by
 have h1:=List.length_filter_le (λd=>!p d) (l.take j);have h2:(l.take j).length<=j:=by simp;omega
 unfold kp;omega
def VL (h:j<=l.length):(gQ p l j).length=l.length:=by
 have:=E2 (p:=p) (l:=l) (j:=j);unfold gQ;simp;omega
def VM:kp p l l.length=l.filter λd=>!p d:=by unfold kp;rw[List.take_length]
variable [Inhabited α]
def A4 (h:j<l.length) (hp:p (ab l j)=false):kp p l (j+1)=kp p l j++[ab l j]:=lP h (by rw[hp];rfl)
def yi (h:j<l.length) (hp:p (ab l j)=true):kp p l (j+1)=kp p l j:=lQ h (by rw[hp];rfl)
def VN (h:j<l.length):ab (gQ p l j) j=ab l j:=by
 have:=E2 (p:=p) (l:=l) (j:=j);unfold gQ ab;rw[List.getD_eq_getElem?_getD,List.getD_eq_getElem?_getD,List.getElem?_append_right this,List.getElem?_drop];congr 2;omega
def VO (h:j<l.length) (hp:p (ab l j)=false):(gQ p l j).set (kp p l j).length (ab l j)=gQ p l (j+1):=by
 have:=E2 (p:=p) (l:=l) (j:=j);have hi:(kp p l j).length<l.length:=by omega
 unfold gQ;rw[A4 h hp,List.set_append_right _ _ (Nat.le_refl _),Nat.sub_self];have e:l.drop (kp p l j).length=l[(kp p l j).length]::l.drop ((kp p l j).length+1):=List.drop_eq_getElem_cons hi;rw[e,List.set_cons_zero];simp
def VP (h:j<l.length) (hp:p (ab l j)=true):gQ p l (j+1)=gQ p l j:=by unfold gQ;rw[yi h hp]
def E3 (h:0<=di p l):kp p l ((di p l).toNat+1)=l.take (di p l).toNat:=by
 obtain⟨h1,h2,h3⟩:=A3 h;rw[yi h1 h2];unfold kp;rw[List.filter_eq_self];intro x hx;obtain⟨i,hi,rfl⟩:=List.getElem_of_mem hx;have nJ:i<(di p l).toNat/\i<l.length:=by simp at hi;omega
 have:=h3 i nJ.1;simpa[ab,nJ.2] using this
def L0 (h:0<=di p l):gQ p l ((di p l).toNat+1)=l:=by
 have h1:=(A3 h).1;unfold gQ;rw[E3 h,List.length_take,Nat.min_eq_left om,List.take_append_drop]
def VQ (h:di p l<0):(l.filter λd=>!p d)=l:=by
 rw[List.filter_eq_self];intro x hx;obtain⟨i,hi,rfl⟩:=List.getElem_of_mem hx;have:=Ay h i hi;simpa[ab,hi] using this
end
def VR {p:an->Bool} {l:List an} {j:Nat} {R Y:List (Option AV)} (h:(gQ p l j).length=l.length):(over (((gQ p l j).map an.cells).flatten.map some++R) ((kp p l j).length*3) Y).take (((kp p l j).map an.cells).length*3)=((kp p l j).map an.cells).flatten.map some:=by
 have hA:((kp p l j).map an.cells).flatten.length=(kp p l j).length*3:=by
  rw[fM (sz:=3) λr hr=>by obtain⟨d,_,rfl⟩:=List.mem_map.1 hr;rfl,List.length_map]
 have e:((gQ p l j).map an.cells).flatten=((kp p l j).map an.cells).flatten++((l.drop (kp p l j).length).map an.cells).flatten:=by
  unfold gQ;rw[List.map_append,List.flatten_append]
 rw[List.length_map,e,List.map_append,KA (by simp only[List.length_append,List.length_map,hA];omega),List.append_assoc];exact List.take_left' (by rw[List.length_map,hA])
def L1 (s:Server) (m:aw):((m.aY !=eS s.site)||decide (m.bU<1))=!((m.aY==eS s.site)&&decide (1<=m.bU)):=by
 have e:decide (m.bU<1)=!decide (1<=m.bU):=by rw[Bool.eq_iff_iff];simp
 rw[e];simp[bne]
def L3 {l ds:List an} {k:Nat} (h:k<ds.length):(ds.take (k+1)).foldl ek l=ek ((ds.take k).foldl ek l) (ab ds k):=by
 rw[dO h,List.foldl_append];rfl
def VT (s:Server) (m:aw):(gX s m).2.length<=1:=by
 unfold gX;split
 .split
  .simp
  split<;>simp
 simp
def VU (s:Server) (m:aw):(gY s m).2.length<=1:=by
 unfold gY;split
 .dsimp only;split
  .split<;>simp
  simp
 simp
def E4 {s:Server} {m:aw} (h:(s.up&&bQ m&&(m.to==s.site))=true):s.up=true/\bQ m=true:=by
 rw[Bool.and_eq_true,Bool.and_eq_true] at h;exact h.1
def L4 {s:Server} {m:aw} (ho:(cQ m.aY&&(ct m.aY !=ct s.site))=true):(((m.ar.length:Int) !=1)||!fw s (ab m.ar 0).key||!(ct (ab m.ar 0).ax.site !=ct s.site))=!rT s m:=by
 have e:((m.ar.length:Int) !=1)=!decide (m.ar.length=1):=by rw[Bool.eq_iff_iff];simp;omega
 unfold rT;rw[e,ho];simp
def L5 (x:Bool) (n:Int):(x&&!decide (0<=n))=(x&&decide (n<0)):=by
 have e:(!decide (0<=n))=decide (n<0):=by rw[Bool.eq_iff_iff];simp
 rw[e]
def tH (d:an):aw:={bW with kind:=3,key:=d.key,ax:=d.ax}
def A5 (m:aw):((m.kind !=4)||(m.yes&&((m.ar.length:Int) !=1||((ab m.ar 0).key !=m.key))))=!decide (m.kind=4/\(m.yes=true->m.ar.length=1/\(ab m.ar 0).key=m.key)):=by
 have e:((m.ar.length:Int) !=1)=!decide (m.ar.length=1):=by rw[Bool.eq_iff_iff];simp;omega
 rw[e,Bool.eq_iff_iff];cases m.yes<;>simp<;>omega
def L6 (x:Int):eN (x-10)=aQ x 10 11:=by
 unfold eN aQ;rw[Bool.eq_iff_iff];simp;omega
def A6 {s:Server} {m:aw} {k:Int} (h:(m.kind==k&&eN (m.aY-10)&&decide (0<m.call)&&fw s m.key)=true):m.kind=k/\(aQ m.aY 10 11&&decide (1<=m.call)&&fw s m.key)=true:=by
 rw[L6] at h;simp only[Bool.and_eq_true,beq_iff_eq,decide_eq_true_eq] at h⊢;exact⟨h.1.1.1,⟨h.1.1.2,by omega⟩,h.2⟩
def L7 {s:Server} {m:aw} {k:Int} (h:(m.kind==k&&eN (m.aY-10)&&decide (0<m.call)&&fw s m.key)=false) (hk:m.kind=k):(aQ m.aY 10 11&&decide (1<=m.call)&&fw s m.key)=false:=by
 rw[L6,hk] at h;simp only[beq_self_eq_true,Bool.true_and] at h;rw[show decide (1<=m.call)=decide (0<m.call) from by rw[Bool.eq_iff_iff];simp;omega];exact h
def VV {s:Server} {m:aw} (h:(m.kind==10&&(m.aY==eS s.site)&&([(ab s.aN m.slot.toNat).bU,(ab s.aN m.slot.toNat).eH]==[m.bU,2]))=true):(cI.cells (ab s.aN m.slot.toNat)).set 1 (AV.int 0)=cI.cells ⟨m.bU,0⟩:=by
 simp only[Bool.and_eq_true,beq_iff_eq,List.cons.injEq] at h;show[AV.int _,AV.int 0]=[AV.int _,AV.int 0];rw[h.2.1]
def A7 (l:List Call) (aA:Int):
 Fn prog 217 [fN l,AV.int aA] (AV.int (cw l aA)):=by
 refine Fn.go 36 func217 ntmps217 (λW I a U=>?_);have hle:=U.eh (t:=0) rfl;refine aq λI a w U=>?_;refine St.lo (σ:=Nat) (run 32 4 []) ⟨λk=>[(5,AV.int k)],λk=>[],λk=>k<=l.length/\∀i,i<k->rZ aA (ab l i)=false⟩ (λk=>l.length-k) 0 U ?aH ?bx;case aH=>exact⟨Nat.zero_le _,λi hi=>by omega⟩
 rintro k I a w al U;obtain⟨hk,aU⟩:=al;refine aV λI a w U=>?_;refine cz (λae=>?_) λae=>?_
 .refine Ae λI a w U=>?_;refine U.cd (λah=>?_) λah=>?_
  .change rZ aA (ab l k)=true at ah;refine dh ?_;exact eW (lK ae aU ah).symm
  change rZ aA (ab l k)=false at ah;refine aM λI a w U=>?_;exact U.ag (k+1) (⟨ae,λi h1=>by rcases Nat.lt_succ_iff_lt_or_eq.1 h1 with h|h;exact aU i h;rw[h];exact ah⟩)
 refine zt ?_;refine bk ?_;exact eW (kR om aU).symm
def tI (au more:List aw):Nat->List aw
 |0=>au
 |k+1=>tI au more k++[ab more k]
def L8 (au more:List aw):∀k,k<=more.length->tI au more k=au++more.take k
 |0,_=>by simp[tI]
 |k+1,h=>by
  show tI au more k++_=_;rw[L8 au more k om,List.append_assoc,<-dO om]
def VW {au more:List aw} {k:Nat} (hr:au.length<=60) (hk:k<=more.length) (kj:k<=60-au.length) (h:¬(k<more.length/\(au++more.take k).length<60)):au++more.take k=eC au more:=by
 unfold eC;have hl:(more.take k).length=k:=by simp;omega
 rw[List.length_append,hl] at h;congr 1;by_cases hm:k<more.length
 .have:k=60-au.length:=by omega
  rw[this]
 have:k=more.length:=by omega
 rw[this,List.take_length,List.take_of_length_le om]
def A8 (v:Value) (au more:List aw) (hr:au.length<=60):
 fQ prog 272 [AV.val v,cU more] [Own.row v 108 15 (au.map aw.cells)] [] (cU (eC au more)):=by
 refine bJ.intro 25 func272 rfl ntmps272 rfl aP (λW I a U=>?_);have hle:=U.eh (t:=1) rfl;refine aq λI a w U=>?_;refine St.lo (σ:=Nat×Value) (0::(run 19 5 [])) ⟨λ⟨k,u⟩=>[(5,AV.int k),(0,AV.val u)],λ⟨k,u⟩=>[Own.row u 108 15 ((tI au more k).map aw.cells)],λ⟨k,u⟩=>k<=more.length/\k<=60-au.length⟩ (λ⟨k,u⟩=>more.length-k) (0,v) U ?aH ?bx;case aH=>exact⟨Nat.zero_le _,Nat.zero_le _⟩
 rintro⟨k,u⟩ I a w al U;obtain⟨hk,kj⟩:=al;have cj:(more.take k).length=k:=by simp;omega
 have yj:=L8 au more k hk;dsimp only at U;refine dp λI a w U=>?_;refine U.q .T (jY 0 eA .ag rfl) λU=>?_;refine aq λI a w U=>?_;refine kO (λae=>?_) λae=>?_
 .rw[List.length_map] at ae;rw[yj] at ae;replace ae:k<more.length/\(au++more.take k).length<60:=⟨ae.1,by omega⟩;refine bc λI a w U=>?_;refine U.o ((by first|exact dE eA cV .tt .tt (λ_=>by exact ae.1)|exact eG eA cV .tt .tt (λ_=>by exact ae.1)|exact eM eA cV .tt .tt (λ_=>by exact ae.1))) λU=>?_;refine U.o .la λU=>?_;refine U.o (.li [(ab more k).cells] fo (.u .nil)) λU=>?_;refine U.append 0 rfl eA cV rfl .tt .r rfl (by rw[yj];simp;omega) λL9 a w U=>?_;rw[bN,show tI au more k++[ab more k]=tI au more (k+1) from rfl] at U;refine aV λI a w U=>?_;exact U.ag (k+1,L9) (⟨ae.1,by have:=ae.2;rw[List.length_append,cj] at this;omega⟩)
 replace ae:¬(k<more.length/\(au++more.take k).length<60):=λhh=>by rw[yj] at ae;simp at ae;simp at hh;omega
 refine wp_exit<|cm<|cm<|dS<|ba<|wp_seq ?_;rw[yj,VW hr hk kj ae] at U;obtain⟨I,U⟩:=U.fr 0 0;refine aq λI a w U=>?_;refine U.bD () [] rfl (.cons (.t rfl) .nil) trivial rfl rfl
def qP (l:List Call) (aA:Int):Nat->Int
 |0=>0
 |k+1=>if(ab l k).aA=aA then(ab l k).num else qP l aA k
def VX {l:List Call} {aA:Int} {k:Nat} (h:(ab l k).aA=aA):(ab l k).num=qP l aA (k+1):=by show _=(if _ then _ else _);rw[if_pos h]
def VY {l:List Call} {aA:Int} {k:Nat} (h:¬(ab l k).aA=aA):qP l aA k=qP l aA (k+1):=by show _=(if _ then _ else _);rw[if_neg h]
def Ma (w:aJ) (e:Ev):(!aQ e.aA 0 1||decide (0<=cw w.calls e.aA))=!(eN e.aA&&decide (cw w.calls e.aA<0)):=by
 have h:decide (0<=cw w.calls e.aA)=!decide (cw w.calls e.aA<0):=by rw[Bool.eq_iff_iff];simp
 rw[h];unfold eN;simp
def VZ {m:aw} (h:bQ m=true) (h2:aQ m.to 10 11=false):0<=m.to/\m.to<=3:=by
 have:=(nj h).2.2.1;simp only[kH,cQ,Bool.or_eq_true] at this;rw[h2] at this;simpa[aQ] using this
def A9:Nat->List (List an)
 |0=>[]
 |k+1=>A9 k++[[]]
def Mb (w:aJ) (e:Ev):(!eN e.aA||decide (0<=cw w.calls e.aA))=!(eN e.aA&&decide (cw w.calls e.aA<0)):=by
 have h:decide (0<=cw w.calls e.aA)=!decide (cw w.calls e.aA<0):=by rw[Bool.eq_iff_iff];simp
 rw[h];simp
def V0 {bs:List UInt8} {n:Int} (h:(decide (n<1)||((bs.length:Int)==0))=false):¬(n<1\/bs.length=0):=by
 simp only[Bool.or_eq_false_iff,decide_eq_false_iff_not,beq_eq_false_iff_ne,ne_eq] at h;omega
def Xh (s:Server) (m:aw) (hg:bA s) (hm:bQ m=true):
 Fn prog 311 [s.av,m.av] (AV.c6 [(gY s m).1.av,cU (gY s m).2]):=by
 refine Fn.go 115 func311 ntmps311 (λW I a U=>?_);have al:=iL.2 hg;have cK:=hg.ok;have jM:=mD hm;refine sr<|U.box rfl .tt λb2 I a w U=>U.o .bp λU=>U.alloc rfl ck c9 λb4 I a w U=>?_;refine ao λI a w U=>?_;refine U.l0 λra I a w U=>?_;obtain⟨I,U⟩:=U.fr 2 14;refine ao λI a w U=>?_;refine U.dk ?_;refine cg ?_;refine .o (.c1 (px ..)) ?_;refine dq ?_;refine .q .F (.cl (nR ..)) ?_;refine cg ?_;refine .q .F (.cl (nR ..)) ?_;refine Af ?_;refine .q .F (dE (i:=0) dA bL .ag .c (λhg=>by simp only[B] at hg;omega)) ?_;refine cg ?_;refine .q .F (.cl (Ez _ _ al)) ?_;refine eP ?_;refine .q .F (dE (i:=0) dA bL .ag .c (λhg=>by simp only[B] at hg;omega)) ?_;refine dw ?_;refine .q .F (.cl (nR ..)) ?_;refine cg ?_;refine .q .F (.cl (nR ..)) ?_;refine cg ?_;refine .nil ?_;intro I a w U;refine ba ?_;refine U.cd (λae=>?_) λae=>?_
 .rw[Lq] at ae;replace ae:=nt ae;refine aV λI a w U=>?_;refine U.ret rfl (.cons (.sx 1) (.cons .x aX.nil)) ?_;exact(by unfold gY;rw[ae];rfl)
 rw[Lq] at ae;replace ae:=nf ae;refine aF λI a w U=>?_;refine U.o (dE (i:=0) dA bL .tt .c (λ_=>by have:=(AO ae).2.2.1;omega)) λU=>?_;refine U.o .la λU=>?_;refine U.alloc rfl bL dy λb7 I a w U=>?_;refine ao λI a w U=>?_;obtain⟨I,U⟩:=U.fb 3 7;refine dp λI a w U=>?_;refine U.o (.cl (pC ..)) λU=>?_;refine bc λI a w U=>?_;refine U.alloc rfl bL dy λb8 I a w U=>?_;refine U.sb 4 λU=>?_;obtain⟨I,U⟩:=U.fb 4 8;refine fm λI a w U=>?_;refine U.o (.cl (pC ..)) λU=>?_;refine bc λI a w U=>?_;refine U.alloc rfl bL dy λjU I a w U=>?_;refine U.sb 5 λU=>?_;obtain⟨I,U⟩:=U.fb 5 10;refine ib λI a w U=>?_;refine U.cd (λah=>?_) λah=>?_
 .rw[Lr s (ab m.ar 0) cK.ar cK.waits,decide_eq_true_eq] at ah;refine bc λI a w U=>?_;refine U.o (.cl (AK _ _ cK.waits)) λU=>?_;refine ib λI a w U=>?_;refine cz (λaj=>?_) λaj=>?_
  .refine aV λI a w U=>?_;refine U.ret rfl (.cons (.sx 1) (.cons .x aX.nil)) ?_;exact(by unfold gY;rw[ae,if_pos rfl];dsimp only;rw[if_pos ah,aj];rfl)
  refine aM λI a w U=>?_;rw[if_pos aj] at U;refine U.o (.ls 0) λU=>U.o (.c1 (vP {s with waits:=ej s.waits (ab m.ar 0)} (cK.ED aj ah.1))) λU=>?_;refine ao λI a w U=>?_;refine U.db [([0],none),([],none),([0],none),([],none),([],none),([],none),([],none),([],none),([],none),([],none),([],none),([1],some (1,[])),([],none)] aP aP rfl ?_;refine .r [0] (.ls 0) ?_;refine aW ?_;refine .r [0] (.lb 0) ?_;refine gw ?_;refine .o (.bd dr (.k (.k (.k (.k (.t aT.nil)))))) ?_;refine .o (.li [({kY s m (ab m.ar 0) with aY:=(gW {s with waits:=ej s.waits (ab m.ar 0)}).site}).cells] fo (.u .nil)) ?_;refine aI.de (x:=AV.any) 1 (λF W0 I0 I γ a w Q U kk=>U.sb 1 λU=>kk _ _ _ U) ?_;refine aW ?_;refine .nil ?_;intro I a w U;refine zt ?_;refine U.ret rfl (.cons (.sx 1) (.cons .x aX.nil)) ?_;exact(by unfold gY;rw[ae,if_pos rfl];dsimp only;rw[if_pos ah,aj,(xY _).1];rfl)
 rw[Lr s (ab m.ar 0) cK.ar cK.waits,decide_eq_false_iff_not] at ah;refine bw λI a w U=>?_;refine U.o (.c1 (vP s cK)) λU=>?_;refine ao λI a w U=>?_;refine U.db [([0],none),([],none),([0],none),([],none),([],none),([],none),([],none),([],none),([],none),([],none),([],none),([1],some (1,[])),([],none)] aP aP rfl ?_;refine .r [0] (.ls 0) ?_;refine aW ?_;refine .r [0] (.lb 0) ?_;refine gw ?_;refine .o (.bd dr (.k (.k (.k (.k (.t aT.nil)))))) ?_;refine .o (.li [({kY s m (ab m.ar 0) with aY:=(gW s).site}).cells] fo (.u .nil)) ?_;refine aI.de (x:=AV.any) 1 (λF W0 I0 I γ a w Q U kk=>U.sb 1 λU=>kk _ _ _ U) ?_;refine aW ?_;refine .nil ?_;intro I a w U;refine zt ?_;refine U.ret rfl (.cons (.sx 1) (.cons .x aX.nil)) ?_;exact(by unfold gY;rw[ae,if_pos rfl];dsimp only;rw[if_neg ah,(xY _).1];rfl)
end Go.Proofs.YtldbakcpcfdlaaaGreat
