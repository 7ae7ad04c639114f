/- Part 12: contracts of functions, plain facts. -/
import Derived.Test.YtldbakcpcfdlaaaGreatP11
set_option linter.all false
set_option maxRecDepth 100000
set_option maxHeartbeats 4000000
namespace Go.Proofs.YtldbakcpcfdlaaaGreat
open Go Go.RowKit Tryz
attribute [local irreducible] wpList Code.wp Ok
def im (n a b:Int):
 Fn prog 65 [AV.int n,AV.int a,AV.int b] (AV.bool (aS n a b)):=by
 refine Fn.go 15 func65 ntmps65 (λW I a U=>?_);refine n4 λI a w U=>?_;refine U.rt ?_;rfl
def zi (n:Int):
 Fn prog 146 [AV.int n] (AV.bool (dp n)):=by
 refine Fn.go 5 func146 ntmps146 (λW I a U=>?_);refine aA λI a w U=>?_;refine U.o (.cl (im ..)) λU=>?_;refine aW ?_;rfl
def FQ (s t:cG):
 Fn prog 239 [s.av,t.av] (AV.bool (dy s t)):=by
 refine Fn.go 24 func239 ntmps239 (λW I a U=>?_);refine Bt λI a w U=>?_;refine U.rt ?_;rfl
def nB (v:aJ):
 Fn prog 132 [v.av] (v.bD.av):=by
 refine Fn.go 8 func132 ntmps132 (λW I a U=>?_);refine aX λI a w U=>?_;refine U.alloc rfl cM fE λb2 I a w U=>?_;refine aR λI a w U=>?_;refine U.o (.bd fE (.k (.t bf.nil))) λU=>?_;refine al λI a w U=>?_;refine U.ret rfl (.cons (.sx 0) aZ.nil) ?_;rfl
def BR (a b:ao):
 Fn prog 157 [a.av,b.av] (AV.bool (ec a b)):=by
 refine Fn.go 24 func157 ntmps157 (λW I a U=>?_);refine Kz λI a w U=>?_;refine U.q .T2 (.cl (FQ ..)) λU=>?_;refine ry ?_;rfl
def FR (n:Int):
 Fn prog 222 [AV.int n] (AV.int (gY n)):=by
 refine Fn.go 9 func222 ntmps222 (λW I a U=>?_);refine aA λI a w U=>?_;refine U.o (.c1 (zi ..)) λU=>?_;refine al λI a w U=>?_;refine cz (λab=>?_) λab=>?_
 .refine aW ?_;exact cj (by simp[gY,ab])
 refine aX λI a w U=>?_;refine U.o (tW .tt .c (λ_=>by simp[dp,aS] at ab;omega)) λU=>?_;refine U.o (A4 .tt .c (λ_=>by simp[dp,aS] at ab;omega)) λU=>?_;refine aW ?_;exact cj (by simp[gY,ab])
def bK {α:Type} [Inhabited α] {l:List α} {k:Nat} (h:k<l.length):ae l k∈l:=by
 unfold ae;rw[List.getD_eq_getElem?_getD,List.getElem?_eq_getElem h];exact List.getElem_mem _
def dK {α:Type} (p:α->Bool) (l:List α):Int:=match l.findIdx? p with
 |some k=>k
 |none=>-1
def mQ {α:Type} [Inhabited α] {p:α->Bool} {l:List α} {k:Nat} (hk:k<l.length) (h:∀i,i<k->p (ae l i)=false) (hp:p (ae l k)=true):dK p l=k:=by
 have:l.findIdx? p=some k:=by
  rw[List.findIdx?_eq_some_iff_getElem];refine⟨hk,by simpa[ae,hk] using hp,λj hj=>?_⟩;have:=h j hj;have kq:j<l.length:=by omega
  simpa[ae,kq] using this
 unfold dK;rw[this]
def l9 {α:Type} [Inhabited α] {p:α->Bool} {l:List α} {k:Nat} (hk:l.length<=k) (h:∀i,i<k->p (ae l i)=false):dK p l=-1:=by
 have:l.findIdx? p=none:=by
  rw[List.findIdx?_eq_none_iff];intro x hx;obtain⟨i,hi,rfl⟩:=List.getElem_of_mem hx;have:=h i om;simpa[ae,hi] using this
 unfold dK;rw[this]
def Uw {α:Type} (p:α->Bool) (l:List α):-1<=dK p l:=by unfold dK;split<;>omega
def hasB {α:Type} (p:α->Bool) (l:List α):Bool:=decide (0<=dK p l)
def FT {α:Type} [Inhabited α] {p:α->Bool} {l:List α} (h:0<=dK p l):∃k,k<l.length/\p (ae l k)=true:=by
 unfold dK at h;split at h
 .rename_i k hk;obtain⟨h1,h2,_⟩:=List.findIdx?_eq_some_iff_getElem.1 hk;exact⟨k,h1,by simpa[ae,h1] using h2⟩
 omega
def BS {α:Type} [Inhabited α] {p:α->Bool} {l:List α} (h:dK p l<0):∀k,k<l.length->p (ae l k)=false:=by
 unfold dK at h;split at h
 .omega
 rename_i hn;rw[List.findIdx?_eq_none_iff] at hn;intro k hk;have:=hn (ae l k) (by unfold ae;rw[List.getD_eq_getElem?_getD,List.getElem?_eq_getElem hk];exact List.getElem_mem _);exact this
def mR (d:ao) (v:aJ):Bool:=decide (v.bD=d)
def placeOf (l:List aJ) (d:ao):Int:=dK (mR d) l
def Ux (d:ao) (v:aJ):([v.key,v.aw.time,v.aw.site]==[d.key,d.aw.time,d.aw.site])=mR d v:=by
 obtain⟨k,⟨t,s⟩⟩:=d;obtain⟨vk,⟨vt,vs⟩,_,_,_,_⟩:=v;rw[Bool.eq_iff_iff];simp[mR,aJ.bD,Bool.and_eq_true]
def FU (l:List (aJ)) (p:(aJ)->Bool) (fv:AV) (hf:∀x:aJ,x∈l->lg prog fv [x.av] (AV.bool (p x))):
 Fn prog 218 [cm l,fv] (AV.int (dK p l)):=by
 refine Fn.go 19 func218 ntmps218 (λW I a U=>?_);have hle:=U.dD (t:=0) rfl;refine aU λI a w U=>?_;refine St.lo (σ:=Nat) (run 2 4 (run 11 8 [])) ⟨λk=>[(8,AV.int k)],λk=>[],λk=>k<=l.length/\∀i,i<k->p (ae l i)=false⟩ (λk=>l.length-k) 0 U ?aD ?bh;case aD=>exact⟨Nat.zero_le _,λi hi=>by omega⟩
 rintro k I a w aj U;obtain⟨hk,aT⟩:=aj;refine al λI a w U=>?_;refine cz (λab=>?_) λab=>?_
 .refine fm λI a w U=>?_;refine U.o (vQ (hf _ (bK ab)) .tt (an .tt aH)) λU=>?_;refine zt ?_;refine U.cd (λah=>?_) λah=>?_
  .refine cK ?_;exact cj (mQ ab aT ah).symm
  refine ax λI a w U=>?_;exact U.ag (k+1) (⟨ab,λi h1=>by rcases Nat.lt_succ_iff_lt_or_eq.1 h1 with h|h;exact aT i h;rw[h];exact ah⟩)
 refine zt ?_;refine aW ?_;exact cj (l9 om aT).symm
def Uy (l:List (ao)) (p:(ao)->Bool) (fv:AV) (hf:∀x:ao,x∈l->lg prog fv [x.av] (AV.bool (p x))):
 Fn prog 282 [bm l,fv] (AV.int (dK p l)):=by
 refine Fn.go 19 func282 ntmps282 (λW I a U=>?_);have hle:=U.dD (t:=0) rfl;refine aU λI a w U=>?_;refine St.lo (σ:=Nat) (run 2 4 (run 11 8 [])) ⟨λk=>[(8,AV.int k)],λk=>[],λk=>k<=l.length/\∀i,i<k->p (ae l i)=false⟩ (λk=>l.length-k) 0 U ?aD ?bh;case aD=>exact⟨Nat.zero_le _,λi hi=>by omega⟩
 rintro k I a w aj U;obtain⟨hk,aT⟩:=aj;refine al λI a w U=>?_;refine cz (λab=>?_) λab=>?_
 .refine fm λI a w U=>?_;refine U.o (vQ (hf _ (bK ab)) .tt (an .tt aH)) λU=>?_;refine zt ?_;refine U.cd (λah=>?_) λah=>?_
  .refine cK ?_;exact cj (mQ ab aT ah).symm
  refine ax λI a w U=>?_;exact U.ag (k+1) (⟨ab,λi h1=>by rcases Nat.lt_succ_iff_lt_or_eq.1 h1 with h|h;exact aT i h;rw[h];exact ah⟩)
 refine zt ?_;refine aW ?_;exact cj (l9 om aT).symm
def Lr (l:List (ao)) (p:(ao)->Bool) (fv:AV) (hf:∀x:ao,x∈l->lg prog fv [x.av] (AV.bool (p x))):
 Fn prog 223 [bm l,fv] (AV.bool (hasB p l)):=by
 refine Fn.go 9 func223 ntmps223 (λW I a U=>?_);refine aV λI a w U=>?_;refine U.o (.cl (Uy _ _ _ hf)) λU=>?_;refine cK ?_;rfl
def Ls (l:List (aJ)) (p:(aJ)->Bool) (fv:AV) (hf:∀x:aJ,x∈l->lg prog fv [x.av] (AV.bool (p x))):
 Fn prog 184 [cm l,fv] (AV.bool (hasB p l)):=by
 refine Fn.go 9 func184 ntmps184 (λW I a U=>?_);refine aV λI a w U=>?_;refine U.o (.cl (FU _ _ _ hf)) λU=>?_;refine cK ?_;rfl
def Uz (v:aJ) (d:ao):
 Fn prog 219 [v.av,AV.ptr d.cells] (AV.bool (mR d v)):=by
 refine Fn.go 8 func219 ntmps219 (λW I a U=>?_);refine ax λI a w U=>?_;refine U.dk ?_;refine br ?_;refine .o (.c1 (nB ..)) ?_;refine br ?_;refine .o (n1 [_,_,_] [_,_,_] yU rfl rfl .tt .tt) ?_;refine br ?_;refine .nil ?_;intro I a w U;refine zt ?_;refine U.rt ?_;exact bT (Ux d v)
def qp (l:List aJ) (d:ao):
 Fn prog 131 [cm l,d.av] (AV.int (placeOf l d)):=by
 refine Fn.go 8 func131 ntmps131 (λW I a U=>?_);refine aV λI a w U=>?_;refine U.o (nj (an .tt aH)) λU=>?_;refine U.o (.cl (FU l (mR d) _ (λv _=>Fn.val (Uz v d)))) λU=>?_;refine aW ?_;rfl
def missing (l:List aJ) (d:ao):Bool:=decide (placeOf l d<0)
def wJ (l:List aJ) (ds:List ao):Bool:=!hasB (missing l) ds
def eY (s:Server) (key:Int):Int:=(ae s.aQ (gY key).toNat).fg
def pg (x:ct):Bool:=aS x.bX 0 9999&&aS x.fg 0 2&&!((x.fg !=0)&&(x.bX==0))
def s0 (s:Server):Bool:=de s.site&&decide (s.aQ.length=3)&&cD s.ar&&cD s.waits&&fU s.aE&&fU s.bq&&!(!s.up&&decide (0<s.bq.length))
def qt (s:Server) (i:Nat):Bool:=pg (ae s.aQ i)
def rI (s:Server) (i:Nat):Bool:=eY s (ae s.ar i).key !=0
def rJ (s:Server) (v:aJ):Bool:=(eY s v.key !=0)&&(cv v.aw.site !=cv s.site)&&decide (placeOf s.ar v.bD<0)
def qu (s:Server) (i:Nat):Bool:=rJ s (ae s.waits i)
def gN (s:Server):Bool:=s0 s&&dh s.aQ.length (qt s)&&dh s.ar.length (rI s)&&dh s.waits.length (qu s)&&wJ s.ar s.aE
def s6 {l:List aJ} (h:cD l=true) {k:Nat} (hk:k<l.length):fi (ae l k)=true:=by
 unfold cD at h;rw[Bool.and_eq_true,jc] at h;have:=h.2 k hk;unfold eU at this;rw[Bool.and_eq_true] at this;exact this.1
def FV {s:Server} (h:s0 s=true):s.aQ.length=3/\cD s.ar=true/\cD s.waits=true/\fU s.aE=true/\fU s.bq=true/\de s.site=true:=by
 simp only[s0,Bool.and_eq_true,decide_eq_true_eq] at h;exact⟨h.1.1.1.1.1.2,h.1.1.1.1.2,h.1.1.1.2,h.1.1.2,h.1.2,h.1.1.1.1.1.1⟩
def ph {n:Int} (h:dp n=true):0<=gY n/\gY n<3:=by
 unfold gY;simp only[h,if_true];simp[dp,aS] at h;omega
def FW (s:Server) (key:Int) (hk:dp key=true) (hl:s.aQ.length=3):
 Fn prog 141 [s.av,AV.int key] (AV.int (eY s key)):=by
 refine Fn.go 12 func141 ntmps141 (λW I a U=>?_);have hr:=ph hk;refine ax λI a w U=>?_;refine U.dk ?_;refine ee ?_;refine .o (.c1 (FR ..)) ?_;refine ef ?_;refine .nil ?_;intro I a w U;refine zt ?_;refine U.rt ?_;rfl
def gT:List ao->ao->List ao
 |[],d=>[d]
 |e::r,d=>if e.key=d.key then(if dy e.aw d.aw then d else e)::r else if d.key<e.key then d::e::r else e::gT r d
def iq {α:Type} [Inhabited α] {l:List α} {x:α} (h:x∈l):∃k,k<l.length/\ae l k=x:=by
 obtain⟨k,hk,rfl⟩:=List.getElem_of_mem h;exact⟨k,hk,by simp[ae,hk]⟩
def Lt:∀(l:List ao) (last:Int),dL last l=true->last<=5->(l.length:Int)<=5-last
 |[],last,_,h=>by simp;omega
 |d::r,last,h,hl=>by
  simp only[dL,Bool.and_eq_true,aS,decide_eq_true_eq] at h;have:=Lt r d.key h.2 om;simp;omega
def gU {l:List ao} (h:ck l=true):l.length<=6:=by
 have:=Lt l (-1) h om;omega
structure jR (l:List ao) (d:ao) (k:Nat) (done:Bool) (out:List ao):Prop where
 hk:k<=l.length
 eq:gT l d=if done then out++l.drop k else out++gT (l.drop k) d
 late:done=true->∀i,k<=i->i<l.length->d.key<(ae l i).key
 len:out.length<=k+done.toNat
def jR.zero (l:List ao) (d:ao):jR l d 0 false []:=⟨Nat.zero_le _,by simp,(λh=>by cases h),by simp⟩
def FX {α:Type} [Inhabited α] {p:α->Bool} {l:List α} (h:hasB p l=true):∃x∈l,p x=true:=by
 simp only[hasB,decide_eq_true_eq] at h;obtain⟨k,hk,hp⟩:=FT h;exact⟨_,bK hk,hp⟩
def BT {α:Type} [Inhabited α] {p:α->Bool} {l:List α} {x:α} (h:x∈l) (hp:p x=true):hasB p l=true:=by
 simp only[hasB,decide_eq_true_eq];rcases Int.lt_or_le (dK p l) 0 with hn|hn
 .obtain⟨k,hk,rfl⟩:=iq h;rw[BS hn k hk] at hp;cases hp
 exact hn
def zj {α:Type} [Inhabited α] (p:α->Bool) (l:List α):(!hasB p l)=dh l.length λi=>!p (ae l i):=by
 rw[Bool.eq_iff_iff,jc];constructor
 .intro h i hi;simp only[Bool.not_eq_true'] at h⊢;cases hp:p (ae l i)
  .rfl
  rw[BT (bK hi) hp] at h;cases h
 intro h;simp only[Bool.not_eq_true'];cases hh:hasB p l
 .rfl
 obtain⟨x,hx,hp⟩:=FX hh;obtain⟨k,hk,rfl⟩:=iq hx;have:=h k hk;rw[hp] at this;cases this
def kT {v:aJ} (h:fi v=true):dp v.key=true/\dB v.aw=true/\ck v.aK=true:=by
 simp only[fi,Bool.and_eq_true] at h;exact⟨h.1.1.1.1.1.1,h.1.1.1.1.1.2,h.1.2⟩
def fF:List aJ->aJ->List aJ
 |[],v=>[v]
 |x::r,v=>if gx x v then x::fF r v else v::x::r
def pj:List aJ->aJ->List aJ
 |[],v=>[v]
 |x::r,v=>if gx v x then v::x::r else x::pj r v
def Lu:∀{l:List aJ} {v:aJ} {n:Nat},n<=l.length->(∀i,i<n->gx (ae l i) v=true)->(n<l.length->gx (ae l n) v=false)->l.take n++v::l.drop n=fF l v
 |[],v,n,h,_,_=>by have:n=0:=by simpa using h
                   subst this;rfl
 |x::r,v,0,_,_,h2=>by
  have:=h2 be;have e:gx x v=false:=this;simp[fF,e]
 |x::r,v,n+1,h,h1,h2=>by
  have e:gx x v=true:=h1 0 om;have ih:=Lu (l:=r) (v:=v) (n:=n) (by simpa using h) (λi hi=>h1 (i+1) om) (λhl=>h2 (by simpa using hl));simp[fF,e,ih]
def BU {a b:ao} (h:ec a b=false) (h':ec b a=false):a=b:=by
 obtain⟨k,⟨t,s⟩⟩:=a;obtain⟨k',⟨t',s'⟩⟩:=b;simp[ec,dy] at h h';simp;omega
def BV (a:ao):ec a a=false:=by simp[ec,dy]
def zl {a b d:ao} (h:ec a b=true) (h':ec b d=true):ec a d=true:=by
 obtain⟨k,⟨t,s⟩⟩:=a;obtain⟨k',⟨t',s'⟩⟩:=b;obtain⟨k2,⟨t2,s2⟩⟩:=d;simp[ec,dy] at h h'⊢;omega
def VS (l:List aJ):Prop:=l.Pairwise λa b=>gx a b=true
def mS:∀{l:List aJ} {v x:aJ},x∈fF l v↔x=v\/x∈l
 |[],v,x=>by simp[fF]
 |y::r,v,x=>by
  unfold fF;split
  .rw[List.mem_cons,mS (l:=r),List.mem_cons];constructor
   .rintro(h|h|h)<;>simp[h]
   rintro(h|h|h)<;>simp[h]
  rw[List.mem_cons]
def Lv (l:List aJ) (v:aJ):(fF l v).length=l.length+1:=by
 induction l with
 |nil=>rfl
 |cons x r ih=>unfold fF;split<;>simp[ih]
def Lw:∀{l:List aJ} {v:aJ},VS l->(∀x∈l,x.bD≠v.bD)->VS (fF l v)
 |[],v,_,_=>by simp[fF,VS]
 |x::r,v,h,hd=>by
  unfold VS at h;rw[List.pairwise_cons] at h;unfold fF;split
  .rename_i bW;unfold VS;rw[List.pairwise_cons];refine⟨λy hy=>?_,Lw h.2 λy hy=>hd y (by simp[hy])⟩;rcases mS.1 hy with rfl|hy
   .exact bW
   exact h.1 y hy
  rename_i bW;have h1:gx v x=true:=by
   cases h1:gx v x
   .simp only[Bool.not_eq_true] at bW;exact absurd (BU bW h1) (hd x be)
   rfl
  unfold VS;rw[List.pairwise_cons,List.pairwise_cons];refine⟨λy hy=>?_,h.1,h.2⟩;rcases List.mem_cons.1 hy with rfl|hy
  .exact h1
  exact zl h1 (h.1 y hy)
def qv {l:List aJ} {d:ao} (h:placeOf l d<0):∀x∈l,x.bD≠d:=λx hx he=>by
 obtain⟨k,hk,rfl⟩:=iq hx;have:=BS h k hk;simp[mR] at this;exact this he
def BW {l:List aJ} {d:ao} (h:∀x∈l,x.bD≠d):placeOf l d<0:=by
 rcases Int.lt_or_le (placeOf l d) 0 with hn|hn
 .exact hn
 obtain⟨k,hk,hp⟩:=FT hn;simp[mR] at hp;exact absurd hp (h _ (bK hk))
def zm {l:List aJ} {d:ao} (h:0<=placeOf l d):(placeOf l d).toNat<l.length/\(ae l (placeOf l d).toNat).bD=d:=by
 unfold placeOf dK at*;split at h
 .rename_i k hk;obtain⟨h1,h2,_⟩:=List.findIdx?_eq_some_iff_getElem.1 hk;refine⟨by simpa using h1,?_⟩;simp only[Int.toNat_natCast];simpa[ae,h1,mR] using h2
 omega
def UA {α:Type} [Inhabited α] {R:α->α->Prop} (tr:∀{a b d},R a b->R b d->R a d) {l:List α} (h:∀i,0<i->i<l.length->R (ae l (i-1)) (ae l i)):l.Pairwise R:=by
 rw[List.pairwise_iff_getElem];intro i j hi hj j3;have e:∀k (hk:k<l.length),l[k]=ae l k:=λk hk=>by simp[ae,hk]
 rw[e i hi,e j hj];obtain⟨n,rfl⟩:∃n,j=i+1+n:=⟨j-(i+1),by omega⟩;clear j3;induction n with
 |zero=>have:=h (i+1) om hj;simpa using this
 |succ n ih=>
  have h1:=ih om
  have h2:=h (i+1+(n+1)) om hj
  rw[show i+1+(n+1)-1=i+1+n from by omega] at h2
  exact tr h1 h2
def g7 {l:List aJ} (h:cD l=true):∀x∈l,fi x=true:=λx hx=>by
 obtain⟨k,hk,rfl⟩:=iq hx;exact s6 h hk
def gV {l:List aJ} (h:cD l=true):l.length<=80:=by
 unfold cD at h;rw[Bool.and_eq_true,decide_eq_true_eq] at h;exact h.1
structure ma (l:List aJ) (v:aJ) (k:Nat) (done:Bool) (out:List aJ):Prop where
 hk:k<=l.length
 eq:pj l v=if done then out++l.drop k else out++pj (l.drop k) v
 len:out.length<=k+done.toNat
def ma.zero (l:List aJ) (v:aJ):ma l v 0 false []:=⟨Nat.zero_le _,by simp,by simp⟩
def fG (slot:Int) (v:aJ):Bool:=gY v.key==slot
def gB (l:List ao) (d:ao):Int:=dK (λe=>decide (e=d)) l
def jS:List ao->ao->List ao
 |[],d=>[d]
 |e::r,d=>if ec d e then d::e::r else e::jS r d
structure mb (l:List ao) (v:ao) (k:Nat) (done:Bool) (out:List ao):Prop where
 hk:k<=l.length
 eq:jS l v=if done then out++l.drop k else out++jS (l.drop k) v
 len:out.length<=k+done.toNat
def mb.zero (l:List ao) (v:ao):mb l v 0 false []:=⟨Nat.zero_le _,by simp,by simp⟩
def nC (s:Server) (d:ao):Bool:=decide (0<=placeOf s.ar d)||decide (0<=gB s.bq d)
def BX (s:Server) (v:aJ):Bool:=dh v.aK.length λi=>nC s (ae v.aK i)
def pk (d:ao) (v:aJ):Bool:=decide (0<=gB v.aK d)
def g8 (s:Server) (d:ao):Bool:=!dh s.waits.length λi=>!pk d (ae s.waits i)
def fR (s:Server) (key:Int):Bool:=dp key&&(eY s key==1)
def lz (s:Server) (v:aJ):Bool:=(eY s v.key==1)&&BX s v
def fo (s:Server):Int:=if s.ar.length<80 then dK (lz s) s.waits else-1
def mT (s:Server) (n:Nat):Server:={s with ar:=fF s.ar (ae s.waits n),waits:=s.waits.take n++s.waits.drop (n+1)}
def mc:Nat->Server->Server
 |0,s=>s
 |n+1,s=>if fo s<0 then s else mc n (mT s (fo s).toNat)
def ir (s:Server):Server:=mc s.waits.length s
def BY (s:Server):Server:={s with bq:=s.bq.filter (g8 s)}
def g9 (s:Server):Server:=BY (ir s)
def zn {s:Server} (h:0<=fo s):(fo s).toNat<s.waits.length/\s.ar.length<80/\lz s (ae s.waits (fo s).toNat)=true:=by
 unfold fo at*;split at h
 .rename_i hl;rw[if_pos hl];unfold dK at*;split at h
  .rename_i k hk;obtain⟨h1,h2,_⟩:=List.findIdx?_eq_some_iff_getElem.1 hk;exact⟨by simpa using h1,hl,by simpa[ae,h1] using h2⟩
  omega
 omega
def FY {s:Server} {n:Nat} (h:n<s.waits.length):(mT s n).waits.length=s.waits.length-1:=by simp[mT];omega
def Lx {s:Server} (h:fo s<0):ir s=s:=by
 unfold ir;cases s.waits.length with
 |zero=>rfl
 |succ n=>show(if fo s<0 then s else _)=_;rw[if_pos h]
structure eI (s:Server):Prop where
 aQ:s.aQ.length=3
 ar:cD s.ar=true
 waits:cD s.waits=true
 apart:∀v∈s.waits,placeOf s.ar v.bD<0
 bq:s.bq.length<=80
def gC (slot:Int) (d:ao):Bool:=gY d.key==slot
def eJ (s:Server) (slot:Int):Server:=
 {s with ar:=s.ar.filter λv=>!fG slot v,waits:=s.waits.filter λv=>!fG slot v,aE:=s.aE.filter λd=>!gC slot d}
def s7 (s:Server) (m:az):Server:=let x:=eJ s m.slot;{x with aQ:=x.aQ.set m.slot.toNat ⟨m.bX,0⟩}
def cA {α:Type} {f:α->List AV} (l:List α) (x:α):l.map f++[f x]=(l++[x]).map f:=by simp
def rK (l:List ao) (h:l.length<=1048576):
 Fn prog 138 [bm l] (bm l):=by
 refine Fn.go 5 func138 ntmps138 (λW I a U=>?_);refine aA λI a w U=>?_;have U:=U.en (sz:=3) 125;refine U.append 0 rfl dw cM rfl .c .r rfl ff λv4 a w U=>?_;obtain⟨I,U⟩:=U.fr 0 4;refine aW ?_;rfl
def UB (v:Value) (l:List (List AV)) (x:List AV) (i:Nat) (hi:i<=l.length) (hl:l.length<=1048576) (dJ:∀r∈l,r.length=7) (hx:x.length=7):
 er prog 220 [AV.val v,AV.int i,AV.rows 7 [x]] [Own.row v 54 7 l] [] (AV.rows 7 (l.take i++x::l.drop i)):=by
 refine er.intro 95 func220 rfl ntmps220 rfl aq (λW I a U=>?_);obtain⟨q,cap,rfl,lW⟩:=U.yM 0 rfl;refine aV λI a w U=>?_;refine U.o (EG du bI .tt .tt ⟨by omega,by omega⟩ lW) λU=>?_;refine aX λI a w U=>?_;refine U.o (yh du .tt) λU=>?_;rw[show(([x]:List (List AV)).length:Int)=1 from rfl] at U;refine aI λI a w U=>?_;refine U.cd (λab=>?_) λab=>?_
 .exfalso;simp at ab;skip
 refine gy λI a w U=>?_;refine cz (λah=>?_) λah=>?_
 .refine aA λI a w U=>?_;refine U.append 0 rfl du bI rfl .tt .tt rfl (by simp only[List.length_singleton];omega) λuH a w U=>?_;obtain⟨I,U⟩:=U.fr 0 25;have U:=U.drop 0;refine al λI a w U=>?_;refine U.jO rfl (.cons .x .nil) rfl ?_;exact congrArg (AV.rows 7) (by rw[show i=l.length by omega];simp)
 refine aR λI a w U=>?_;refine U.o (EI du .tt) λU=>?_;refine al λI a w U=>?_;refine cz (λai=>?_) λai=>?_
 .refine zt ?_;have bH:l≠[]:=by intro e;rw[e] at hi ah;simp at hi ah;omega
  obtain⟨b,nc,he,nd,ng,l8,U⟩:=U.rk 0 rfl bH;simp only[Value.slice.injEq] at he;obtain⟨rfl,_,rfl⟩:=he;have hA:(l.take i).flatten.length=i*7:=by rw[fL λr hr=>dJ r (List.mem_of_mem_take hr),List.length_take,Nat.min_eq_left hi]
  have hB:(l.drop i).flatten.length=(l.length-i)*7:=by rw[fL λr hr=>dJ r (List.mem_of_mem_drop hr),List.length_drop]
  rw[show l.flatten=(l.take i).flatten++(l.drop i).flatten by rw[<-List.flatten_append,List.take_append_drop],List.map_append] at U;have fX:([x]:List (List AV)).flatten.length=7:=by simpa using hx
  have hlen:(l.take i++x::l.drop i).length=l.length+1:=by simp;omega
  have mf:∀r∈l.take i++x::l.drop i,r.length=7:=λr hr=>(List.mem_append.1 hr).elim (λh=>dJ r (List.mem_of_mem_take h)) λh=>(List.mem_cons.1 h).elim (λe=>e▸hx) λh=>dJ r (List.mem_of_mem_drop h);have pn:(l.take i++x::l.drop i).flatten.map some=(l.take i).flatten.map some++([x]:List (List AV)).flatten.map some++(l.drop i).flatten.map some:=by simp
  refine aA λI a w U=>?_;refine U.o (rm (hi:=i) du bI .tt .tt rfl om om) λU=>?_;refine bV λI a w U=>?_;refine U.EJ (je:=l.length+1-i) (xs:=(l.take i).flatten) 0 du sW bI rfl bA .tt .tt om om rfl (by rw[List.drop_zero,List.append_assoc];exact jP _ (List.length_map _)) hA om om om rfl λ{gb zq a w} uc we U=>?_;refine aV λI a w U=>?_;refine U.o (jv (lo:=i) du bI .tt .tt rfl om om) λU=>?_;refine U.m λU=>?_;refine U.wb 1 du bI .tt .tt rfl be (by simp only[List.length_singleton];omega) (by simp only[List.length_singleton,List.length_append,List.length_map,List.length_replicate,hA];omega) rfl λU=>?_;refine zt ?_;refine U.dt 8 ?_;simp only[TD];refine ef ?_;refine .o (jv (lo:=i+1) du bI .tt .tt om om om) ?_;refine cy ?_;refine .o (jv (lo:=i) du bI .tt .tt rfl om om) ?_;refine .nil ?_;intro I a w U;refine U.wc (xs:=(l.drop i).flatten) 1 0 du bI .tt .tt rfl rfl (by rw[List.append_assoc,uw _ (by simp only[List.length_map,hA];omega)];exact jP _ (List.length_map _)) (by rw[hB,Nat.min_eq_left om]) (by rw[kx (by simp only[List.length_map,List.length_append,List.length_replicate,fX,hA];omega)];simp only[List.length_append,List.length_map,List.length_replicate,hA,hB];omega) rfl λU=>?_;rw[ES (by simp only[List.length_map,hA];omega) (by simp only[List.length_map,fX];omega) (by simp only[List.length_map,List.length_replicate,fX,hB];omega)] at U;have U:=U.rl (l:=l.take i++x::l.drop i) (cap:=zq) 1 rfl (by simp only[List.length_append,List.length_map,List.length_drop,List.length_replicate,hA,hB,fX];omega) mf om om om (by rw[pn,hlen];exact jP _ (by simp only[List.length_append,List.length_map,hA,hB,fX];omega));rw[show i+(l.length+1-i)=(l.take i++x::l.drop i).length by omega] at U;obtain⟨I,U⟩:=U.fr 1 9;have U:=U.drop 0;refine ax λI a w U=>?_;exact U.jO rfl (.cons (by first|exact .t rfl|exact .nil rfl) .nil) rfl rfl
 refine zt ?_;have bH:l≠[]:=by intro e;rw[e] at hi ah;simp at hi ah;omega
 obtain⟨b,nc,he,nd,ng,l8,U⟩:=U.rk 0 rfl bH;simp only[Value.slice.injEq] at he;obtain⟨rfl,_,rfl⟩:=he;have hA:(l.take i).flatten.length=i*7:=by rw[fL λr hr=>dJ r (List.mem_of_mem_take hr),List.length_take,Nat.min_eq_left hi]
 have hB:(l.drop i).flatten.length=(l.length-i)*7:=by rw[fL λr hr=>dJ r (List.mem_of_mem_drop hr),List.length_drop]
 rw[show l.flatten=(l.take i).flatten++(l.drop i).flatten by rw[<-List.flatten_append,List.take_append_drop],List.map_append] at U;have fX:([x]:List (List AV)).flatten.length=7:=by simpa using hx
 have hlen:(l.take i++x::l.drop i).length=l.length+1:=by simp;omega
 have mf:∀r∈l.take i++x::l.drop i,r.length=7:=λr hr=>(List.mem_append.1 hr).elim (λh=>dJ r (List.mem_of_mem_take h)) λh=>(List.mem_cons.1 h).elim (λe=>e▸hx) λh=>dJ r (List.mem_of_mem_drop h);have pn:(l.take i++x::l.drop i).flatten.map some=(l.take i).flatten.map some++([x]:List (List AV)).flatten.map some++(l.drop i).flatten.map some:=by simp
 refine aR λI a w U=>?_;refine U.o (rm (hi:=l.length+1) du bI .tt .tt om om om) λU=>?_;refine df λI a w U=>?_;refine U.o (jv (lo:=i+1) du bI .tt .tt om om om) λU=>?_;refine U.overlaps (tR:=4) 0 func280 rfl aq aq aq du bI bA .tt be .tt rfl rfl λU=>?_;refine al λI a w U=>?_;refine U.cd (λaG=>?_) λaG=>?_
 .refine wp_seq ?_;refine U.dt 8 ?_;simp only[TD];refine ef ?_;refine .o (jv (lo:=i+1) du bI .tt .tt om om om) ?_;refine cy ?_;refine .o (jv (lo:=i) du bI .tt .tt rfl om om) ?_;refine .nil ?_;intro I a w U;refine U.wc (xs:=(l.drop i).flatten) 0 0 du bI .tt .tt rfl rfl (by rw[List.append_assoc,uw _ (by simp only[List.length_map,hA];omega)];exact jP _ (List.length_map _)) (by rw[hB];congr 1;omega) (by simp only[List.length_append,List.length_map,List.length_replicate,hA,hB];omega) rfl λU=>?_;refine aA λI a w U=>?_;refine U.o (jv (lo:=i) du bI .tt .tt rfl om om) λU=>?_;refine U.m λU=>?_;refine U.wb 0 du bI .tt .tt rfl be (by simp only[List.length_singleton];omega) (by rw[kx (by simp only[List.length_map,List.length_append,List.length_replicate,hA,hB];omega)];simp only[List.length_singleton,List.length_append,List.length_map,List.length_replicate,hA,hB];omega) rfl λU=>?_;rw[ER (by simp only[List.length_map,hA];omega) (by simp only[List.length_map,fX];omega) (by simp only[List.length_map,List.length_replicate,fX];omega)] at U;have U:=U.rl (l:=l.take i++x::l.drop i) (cap:=cap) 0 rfl (by simp only[List.length_append,List.length_map,List.length_drop,List.length_replicate,hA,hB,fX];omega) mf om om om (by rw[pn,hlen];exact jP _ (by simp only[List.length_append,List.length_map,hA,hB,fX];omega));rw[show l.length+1=(l.take i++x::l.drop i).length by omega] at U;obtain⟨I,U⟩:=U.fr 0 0;have U:=U.drop 0;refine ax λI a w U=>?_;exact U.jO rfl (.cons (by first|exact .t rfl|exact .nil rfl) .nil) rfl rfl
 exfalso;simp at aG;skip
def uI (v:aJ) (h:v.aK.length<=1048576):
 Fn prog 159 [v.av] (v.av):=by
 refine Fn.go 8 func159 ntmps159 (λW I a U=>?_);refine sr<|U.box rfl .tt λb1 I a w U=>U.alloc rfl bI dY λb2 I a w U=>?_;refine aA λI a w U=>?_;refine U.o (.cl (rK v.aK h)) λU=>?_;refine aU λI a w U=>?_;refine U.ret rfl (.cons (.sx 1) aZ.nil) ?_;rfl
def uJ (l:List aJ) (h:l.length<=1048576) (hd:∀v∈l,v.aK.length<=1048576):
 gR prog 130 [cm l] 54 7 (l.map aJ.cells):=by
 refine gR.intro 19 func130 rfl ntmps130 rfl aq (λW I a U=>?_);have U:=U.en (sz:=7) 54;refine bP λI a w U=>?_;refine St.lo (σ:=Nat×Value) (3::(5::(run 10 8 []))) ⟨λ⟨k,v⟩=>[(8,AV.int k),(3,AV.val v)],λ⟨k,v⟩=>[Own.row v 54 7 ((l.take k).map aJ.cells)],λ⟨k,v⟩=>k<=l.length⟩ (λ⟨k,v⟩=>l.length-k) (0,.slice none 0 0) U ?aD ?bh;case aD=>exact Nat.zero_le _
 rintro⟨k,v⟩ I a w aj U;have hk:k<=l.length:=aj;dsimp only at U;refine al λI a w U=>?_;refine cz (λab=>?_) λab=>?_
 .refine aA λI a w U=>?_;refine U.alloc rfl bI dY λb5 I a w U=>?_;refine al λI a w U=>?_;obtain⟨I,U⟩:=U.fb 1 5;refine aA λI a w U=>?_;refine U.o (.c1 (uI (ae l k) (hd _ (bK ab)))) λU=>?_;refine U.o (.li [(ae l k).cells] j9 (.u .nil)) λU=>?_;refine U.ap 0 λrL a w U=>?_;rw[cA,<-ep ab] at U;refine aI λI a w U=>?_;have U:=U.drop 1;exact U.ag (k+1,rL) (ab)
 refine zt ?_;refine ax λI a w U=>?_;exact U.rq (r:=2) 0 rfl rfl rfl (by rw[List.take_of_length_le om])
def FZ (l:List aJ) (v:aJ) (h:l.length<=1048575) (hd:∀u∈l,u.aK.length<=1048576) (hv:v.aK.length<=1048576):
 Fn prog 133 [cm l,v.av] (cm (fF l v)):=by
 refine Fn.go 29 func133 ntmps133 (λW I a U=>?_);refine aI λI a w U=>?_;refine St.lo (σ:=Nat) (run 17 5 []) ⟨λk=>[(5,AV.int k)],λk=>[],λk=>k<=l.length/\∀i,i<k->gx (ae l i) v=true⟩ (λk=>l.length-k) 0 U ?aD ?bh;case aD=>exact⟨Nat.zero_le _,λi hi=>by omega⟩
 rintro k I a w aj U;obtain⟨hk,aT⟩:=aj;refine wp_seq<|wp_seq<|U.dk ?_;refine wg ?_;refine .q .T (.cl (nB ..)) ?_;refine br ?_;refine .q .T (.cl (nB ..)) ?_;refine .q .T (.cl (BR ..)) ?_;refine br ?_;refine .nil ?_;intro I a w U;refine ba ?_;refine cz (λab=>?_) λab=>?_
 .refine aI λI a w U=>?_;exact U.ag (k+1) (⟨by omega,λi h1=>by rcases Nat.lt_succ_iff_lt_or_eq.1 h1 with h|h;exact aT i h;rw[h];exact ab.2⟩)
 refine zt ?_;refine U.da 6 ?_;simp only[TD];refine br ?_;refine fO.gh (uJ l om hd) (an .r aH) ?_;refine cy ?_;refine .o (.c1 (uI v hv)) ?_;refine .o (.li [v.cells] j9 (.u .nil)) ?_;refine .nil ?_;intro I a w U;obtain⟨wL,U⟩:=U.Bm (d:=23);refine U.eX [0] (UB _ (l.map aJ.cells) v.cells k (by rw[List.length_map];exact hk) jr (λr hr=>by obtain⟨u,_,rfl⟩:=List.mem_map.1 hr;rfl) rfl) (an .tt (an .tt (an .tt aH))) rfl bA rfl λI a w U=>?_;refine aW ?_;exact congrArg (AV.rows 7) (by rw[<-Lu hk aT (λhl=>by rcases ab with h|h;omega;exact h),List.map_append,List.map_cons,List.map_take,List.map_drop])
def hP {l:List ao} (h:fU l=true):l.length<=80:=by
 unfold fU at h;rw[Bool.and_eq_true,decide_eq_true_eq] at h;exact h.1
def F0 {v:aJ} (h:fi v=true):ck v.aK=true:=by
 simp only[fi,Bool.and_eq_true] at h;exact h.1.2
def rM (l:List aJ):Prop:=l.length<=1048576/\∀v∈l,v.aK.length<=1048576
def po (s:Server):Prop:=s.aQ.length<=1048576/\rM s.ar/\rM s.waits/\s.aE.length<=1048576/\s.bq.length<=1048576
def s8 {l:List aJ} (h:cD l=true):rM l:=⟨by have:=gV h;omega,λv hv=>by have:=gU (F0 (g7 h v hv));omega⟩
def oc (l:List ao) (h:l.length<=1048576):
 gR prog 138 [bm l] 125 3 (l.map ao.cells):=by
 refine gR.intro 5 func138 rfl ntmps138 rfl aq (λW I a U=>?_);refine aA λI a w U=>?_;have U:=U.en (sz:=3) 125;refine U.append 0 rfl dw cM rfl .c .r rfl ff λv4 a w U=>?_;refine al λI a w U=>?_;exact U.rq (r:=2) 0 rfl rfl rfl rfl
def Server.UC (s:Server) (r:Value×Value×Value×Value×Value):AV:=.agg [.int s.site,.bool s.up,.val r.1,.val r.2.1,.val r.2.2.1,.val r.2.2.2.1,.val r.2.2.2.2]
def Server.Ly (s:Server) (r:Value×Value×Value×Value×Value):List Own:=[Own.row r.1 97 2 (s.aQ.map ct.cells),Own.row r.2.1 54 7 (s.ar.map aJ.cells),Own.row r.2.2.1 54 7 (s.waits.map aJ.cells),Own.row r.2.2.2.1 125 3 (s.aE.map ao.cells),Own.row r.2.2.2.2 125 3 (s.bq.map ao.cells)]
def zu (s:Server) (h:po s):
 bG prog 136 [s.av] [] (λ_=>True) s.Ly s.UC:=by
 refine bG.intro 23 func136 rfl ntmps136 rfl aq (λW I a U=>?_);obtain⟨h1,⟨h2,h3⟩,⟨h4,h5⟩,h6,h7⟩:=h;refine aX λI a w U=>?_;refine U.alloc rfl bL di λb2 I a w U=>?_;refine zt ?_;have U:=U.dH;have U:=U.dH;have U:=U.dH;have U:=U.dH;have U:=U.dH;have U:=U.en (sz:=2) 97;refine U.ET 20 _ (rp 6 (([6],some (6,[9]))::rp 2 (([1],some (1,[12]))::rp 2 (([2],some (2,[15]))::rp 2 (([3],some (3,[18]))::rp 2 [([4],some (4,[21])),([5],some (5,[22,9,12,15,18,21]))]))))) rfl aq aq rfl ?_;simp only[TD];refine gS ?_;refine aP.Bi 6 rfl rfl eM dP rfl .c .r ff ?_;refine cy ?_;refine aP.gh 1 rfl rfl (uJ s.ar h2 h3) (an .r aH) ?_;refine cy ?_;refine aP.gh 2 rfl rfl (uJ s.waits h4 h5) (an .r aH) ?_;refine cy ?_;refine aP.gh 3 rfl rfl (oc s.aE h6) (an .r aH) ?_;refine cy ?_;refine aP.gh 4 rfl rfl (oc s.bq h7) (an .r aH) ?_;refine aP.Bx 5 [9,12,15,18,21] (λa=>AV.agg [AV.int s.site,AV.bool s.up,AV.val (a.tmps.getD 9 undef),AV.val (a.tmps.getD 12 undef),AV.val (a.tmps.getD 15 undef),AV.val (a.tmps.getD 18 undef),AV.val (a.tmps.getD 21 undef)]) rfl rfl rfl rfl (λa b h=>by simp only[List.forall_mem_cons] at h;simp only[h]) rfl (λF a I he=>Ok.to (.bd di (.k (.k (bf.c Ti rfl .tt (rC (t:=9) he) (bf.c Tk rfl .tt (rC (t:=12) he) (bf.c Tm rfl .tt (rC (t:=15) he) (bf.c To rfl .tt (rC (t:=18) he) (bf.c Tq rfl .tt (rC (t:=21) he) bf.nil))))))))) ?_;refine .nil ?_;intro I a w U;change St _ _ [Own.box b2 95 [AV.val (.int .i64 0),AV.val (.bool false),AV.rows 2 [],AV.rows 7 [],AV.rows 7 [],AV.rows 3 [],AV.rows 3 []],Own.row (a.tmps.getD 12 undef) 54 7 (s.ar.map aJ.cells),Own.row (a.tmps.getD 15 undef) 54 7 (s.waits.map aJ.cells),Own.row (a.tmps.getD 18 undef) 125 3 (s.aE.map ao.cells),Own.row (a.tmps.getD 21 undef) 125 3 (s.bq.map ao.cells),Own.is (AV.agg [AV.int s.site,AV.bool s.up,AV.val (a.tmps.getD 9 undef),AV.val (a.tmps.getD 12 undef),AV.val (a.tmps.getD 15 undef),AV.val (a.tmps.getD 18 undef),AV.val (a.tmps.getD 21 undef)]) (a.tmps.getD 22 undef),Own.row (a.tmps.getD 9 undef) 97 2 (s.aQ.map ct.cells)] _ _ _ at U;have U:=U.rD (d:=22) 5 rfl;generalize a.tmps.getD 9 undef=v9 at U;generalize a.tmps.getD 12 undef=zw at U;generalize a.tmps.getD 15 undef=F1 at U;generalize a.tmps.getD 18 undef=BZ at U;generalize a.tmps.getD 21 undef=wM at U;show wpList _ _ _ _ _ _;refine al λI a w U=>?_;exact U.cE (v9,zw,F1,BZ,wM) [6,1,2,3,4] rfl (.cons (.s 0 bL rfl rfl (by first|rfl|assumption)) .nil) trivial rfl rfl
def mU {α:Type} [Inhabited α] {p:α->Bool} {l:List α} {k:Nat} (h:k<l.length) (hp:p (ae l k)=true):(l.take (k+1)).filter p=(l.take k).filter p++[ae l k]:=by
 rw[ep h,List.filter_append,List.filter_cons,hp];rfl
def mV {α:Type} [Inhabited α] {p:α->Bool} {l:List α} {k:Nat} (h:k<l.length) (hp:p (ae l k)=false):(l.take (k+1)).filter p=(l.take k).filter p:=by
 rw[ep h,List.filter_append,List.filter_cons,hp];simp
def zx (e d:ao):([e.key,e.aw.time,e.aw.site]==[d.key,d.aw.time,d.aw.site])=decide (e=d):=by
 obtain⟨k,⟨t,s⟩⟩:=d;obtain⟨k',⟨t',s'⟩⟩:=e;rw[Bool.eq_iff_iff];simp
def zy {s:Server} (h:gN s=true):s.aQ.length=3/\cD s.ar=true/\cD s.waits=true/\fU s.aE=true/\fU s.bq=true/\de s.site=true:=by
 simp only[gN,Bool.and_eq_true] at h;exact FV h.1.1.1.1
def zA {α:Type} [Inhabited α] {R:α->α->Prop} {l:List α} (h:l.Pairwise R) {i j:Nat} (j3:i<j) (hj:j<l.length):R (ae l i) (ae l j):=by
 rw[List.pairwise_iff_getElem] at h;have:=h i j om hj j3;have e:∀k (hk:k<l.length),l[k]=ae l k:=λk hk=>by simp[ae,hk]
 rwa[e i om,e j hj] at this
def F3 {α:Type} [Inhabited α] {cX:α->Bool} {less:α->α->Bool} (tr:∀{a b d},less a b=true->less b d=true->less a d=true) {l:List α}:
 dh l.length (eU cX less l)=true↔(∀x∈l,cX x=true)/\l.Pairwise λa b=>less a b=true:=by
 rw[jc];constructor
 .intro h;refine⟨λx hx=>?_,UA (R:=λa b=>less a b=true) (λh1 h2=>tr h1 h2) λi h0 hi=>?_⟩
  .obtain⟨k,hk,rfl⟩:=iq hx;have:=h k hk;unfold eU at this;rw[Bool.and_eq_true] at this;exact this.1
  have:=h i hi;unfold eU at this;rw[Bool.and_eq_true,Bool.or_eq_true,decide_eq_true_eq] at this;rcases this.2 with h3|h3
  .omega
  exact h3
 rintro⟨h1,h2⟩ i hi;unfold eU;rw[Bool.and_eq_true,Bool.or_eq_true,decide_eq_true_eq];refine⟨h1 _ (bK hi),?_⟩;rcases Nat.eq_zero_or_pos i with h|h
 .exact Or.inl h
 exact Or.inr (zA h2 om hi)
def UD {a b d:aJ} (h:gx a b=true) (h':gx b d=true):gx a d=true:=zl h h'
def uK {l:List aJ}:cD l=true↔l.length<=80/\(∀v∈l,fi v=true)/\VS l:=by
 unfold cD;rw[Bool.and_eq_true,decide_eq_true_eq,F3 (less:=gx) (λh1 h2=>UD h1 h2)];rfl
def wN {l:List ao}:fU l=true↔l.length<=80/\(∀d∈l,kt d=true)/\l.Pairwise λa b=>ec a b=true:=by
 unfold fU;rw[Bool.and_eq_true,decide_eq_true_eq,F3 (less:=ec) (λh1 h2=>zl h1 h2)]
def B0 {l:List aJ} {v:aJ} (h:cD l=true) (hv:fi v=true) (hp:placeOf l v.bD<0) (hl:l.length<80):cD (fF l v)=true:=by
 obtain⟨h1,h2,h3⟩:=uK.1 h;refine uK.2 ⟨by rw[Lv];omega,λx hx=>?_,Lw h3 (qv hp)⟩;rcases mS.1 hx with rfl|hx
 .exact hv
 exact h2 x hx
def zB {l m:List aJ} (h:cD l=true) (U:m.Sublist l):cD m=true:=by
 obtain⟨h1,h2,h3⟩:=uK.1 h;exact uK.2 ⟨Nat.le_trans U.length_le h1,λx hx=>h2 x (U.subset hx),h3.sublist U⟩
def B1 {l m:List ao} (h:fU l=true) (U:m.Sublist l):fU m=true:=by
 obtain⟨h1,h2,h3⟩:=wN.1 h;exact wN.2 ⟨Nat.le_trans U.length_le h1,λx hx=>h2 x (U.subset hx),h3.sublist U⟩
def zC {α:Type} (l:List α) (n:Nat):(l.take n++l.drop (n+1)).Sublist l:=by
 have e:l=l.take n++l.drop n:=(List.take_append_drop n l).symm;conv=>rhs;rw[e]
 refine List.Sublist.append (List.Sublist.refl _) ?_;rw[<-List.drop_drop];exact List.drop_sublist 1 _
def F4 {s:Server} (h:gN s=true):eI s:=by
 obtain⟨h1,h2,h3,h4,h5,h6⟩:=zy h;refine⟨h1,h2,h3,λv hv=>?_,hP h5⟩;simp only[gN,Bool.and_eq_true] at h;obtain⟨k,hk,rfl⟩:=iq hv;have:=(jc.1 h.1.2) k hk;simp only[qu,rJ,Bool.and_eq_true,decide_eq_true_eq] at this;exact this.2
def Lz {l:List aJ} (h:VS l) {i j:Nat} (hi:i<l.length) (hj:j<l.length) (bH:i≠j):(ae l i).bD≠(ae l j).bD:=λe=>by
 rcases Nat.lt_or_gt_of_ne bH with bW|bW
 .have:=zA h bW hj;unfold gx at this;rw[e,BV] at this;cases this
 have:=zA h bW hi;unfold gx at this;rw[e,BV] at this;cases this
def UE {α:Type} [Inhabited α] {l:List α} {n:Nat} {x:α} (h:x∈l.take n++l.drop (n+1)):∃k,k<l.length/\k≠n/\ae l k=x:=by
 rcases List.mem_append.1 h with h|h
 .obtain⟨k,hk,rfl⟩:=List.getElem_of_mem h;have ek:k<n/\k<l.length:=by simp at hk;omega
  exact⟨k,ek.2,by omega,by simp[ae,ek.2]⟩
 obtain⟨k,hk,rfl⟩:=List.getElem_of_mem h;have ek:n+1+k<l.length:=by simp at hk;omega
 exact⟨n+1+k,ek,by omega,by simp[ae,ek]⟩
def eI.wO {s:Server} (h:eI s) (hp:0<=fo s):eI (mT s (fo s).toNat):=by
 obtain⟨hl,od,_⟩:=zn hp;have hm:=bK hl;have UF:=(uK.1 h.waits).2.2;refine⟨h.aQ,B0 h.ar (g7 h.waits _ hm) (h.apart _ hm) od,zB h.waits (zC _ _),λv hv=>BW λx hx=>?_,h.bq⟩;obtain⟨k,hk,bH,rfl⟩:=UE hv;rcases mS.1 hx with rfl|hx
 .exactλe=>Lz UF hk hl bH e.symm
 exact qv (h.apart _ (bK hk)) x hx
def LA:∀(n:Nat) (s:Server),(mc n s).site=s.site/\(mc n s).up=s.up/\(mc n s).aQ=s.aQ/\(mc n s).aE=s.aE/\(mc n s).bq=s.bq
 |0,s=>⟨rfl,rfl,rfl,rfl,rfl⟩
 |n+1,s=>by
  unfold mc;split
  .exact⟨rfl,rfl,rfl,rfl,rfl⟩
  obtain⟨a,b,d,e,f⟩:=LA n (mT s (fo s).toNat);exact⟨a,b,d,e,f⟩
def eI.F5 {s:Server} (h:eI s):eI (ir s):=by
 have:∀(n:Nat) (s:Server),eI s->eI (mc n s):=by
  intro n;induction n with
  |zero=>exactλs h=>h
  |succ n ih=>
   intro s h
   unfold mc
   split
   .exact h
   exact ih _ (h.wO om)
 exact this _ _ h
def rN {α:Type} {p:α->Bool} {l:List α} {x:α} (h:x∈l.filter p):x∈l:=(List.mem_filter.1 h).1
def eI.drop {s:Server} (h:eI s) (slot:Int):eI (eJ s slot):=
 ⟨h.aQ,zB h.ar (List.filter_sublist),zB h.waits (List.filter_sublist),λv hv=>BW λx hx=>qv (h.apart v (rN hv)) x (rN hx),h.bq⟩
def eI.UG {s:Server} (h:eI s) {x:List ct} (hx:x.length=3):eI {s with aQ:=x}:=⟨hx,h.ar,h.waits,h.apart,h.bq⟩
def F6 {α:Type} [Inhabited α] {p:α->Bool} {l:List α}:hasB p l=true↔∃x∈l,p x=true:=⟨FX,λ⟨_,hx,hp⟩=>BT hx hp⟩
def F7 {α:Type} [Inhabited α] {p:α->Bool} {l:List α}:hasB p l=false↔∀x∈l,p x=false:=by
 rw[<-Bool.not_eq_true,F6];exact⟨λh x hx=>by cases hp:p x;rfl;exact absurd ⟨x,hx,hp⟩ h,λh ⟨x,hx,hp⟩=>by rw[h x hx] at hp;cases hp⟩
def zD {α:Type} [Inhabited α] {p:α->Bool} {l:List α}:(dh l.length λi=>p (ae l i))=true↔∀x∈l,p x=true:=by
 rw[jc];exact⟨λh x hx=>by obtain⟨k,hk,rfl⟩:=iq hx;exact h k hk,λh i hi=>h _ (bK hi)⟩
def F8 {l:List aJ} {d:ao}:0<=placeOf l d↔∃x∈l,x.bD=d:=by
 constructor
 .intro h;obtain⟨h1,h2⟩:=zm h;exact⟨_,bK h1,h2⟩
 rintro⟨x,hx,he⟩;apply Int.not_lt.1;intro hn;exact qv hn x hx he
def LB {l:List aJ} {d:ao}:placeOf l d<0↔∀x∈l,x.bD≠d:=⟨qv,BW⟩
def UH {l:List aJ} {ds:List ao}:wJ l ds=true↔∀d∈ds,∃x∈l,x.bD=d:=by
 unfold wJ;rw[Bool.not_eq_true',F7];refine forall_congr' λd=>forall_congr' λhd=>?_;rw[<-F8];unfold missing;simp
structure bE (s:Server):Prop where
 site:de s.site=true
 aQ:s.aQ.length=3
 ar:cD s.ar=true
 waits:cD s.waits=true
 aE:fU s.aE=true
 bq:fU s.bq=true
 up:s.up=false->s.bq=[]
 cX:∀x∈s.aQ,pg x=true
 here:∀v∈s.ar,eY s v.key≠0
 oe:∀v∈s.waits,eY s v.key≠0
 og:∀v∈s.waits,cv v.aw.site≠cv s.site
 apart:∀v∈s.waits,∀x∈s.ar,x.bD≠v.bD
 oh:∀d∈s.aE,∃x∈s.ar,x.bD=d
def iU {s:Server}:gN s=true↔bE s:=by
 have e1:(dh s.aQ.length (qt s))=true↔∀x∈s.aQ,pg x=true:=by
  have e:qt s=λi=>pg (ae s.aQ i):=by funext i;unfold qt;rfl
  rw[e];exact zD
 have e2:(dh s.ar.length (rI s))=true↔∀x∈s.ar,(eY s x.key !=0)=true:=by
  have e:rI s=λi=>(λv:aJ=>eY s v.key !=0) (ae s.ar i):=by funext i;unfold rI;rfl
  rw[e];exact zD (p:=λv:aJ=>eY s v.key !=0)
 have e3:(dh s.waits.length (qu s))=true↔∀x∈s.waits,rJ s x=true:=by
  have e:qu s=λi=>rJ s (ae s.waits i):=by funext i;unfold qu;rfl
  rw[e];exact zD
 have eu:(!(!s.up&&decide (0<s.bq.length)))=true↔(s.up=false->s.bq=[]):=by
  cases s.up<;>simp
 unfold gN s0;simp only[Bool.and_eq_true,decide_eq_true_eq];rw[e1,e2,e3,UH,eu];constructor
 .rintro⟨⟨⟨⟨⟨⟨⟨⟨⟨⟨a1,a2⟩,a3⟩,a4⟩,a5⟩,a6⟩,a7⟩,a8⟩,a9⟩,nD⟩,rO⟩;refine⟨a1,a2,a3,a4,a5,a6,a7,a8,λv hv=>by simpa using a9 v hv,λv hv=>?_,λv hv=>?_,λv hv=>?_,rO⟩<;>
   have:=nD v hv<;>simp only[rJ,Bool.and_eq_true,decide_eq_true_eq,LB,bne_iff_ne] at this
  .exact this.1.1
  .exact this.1.2
  exact this.2
 intro h;refine⟨⟨⟨⟨⟨⟨⟨⟨⟨⟨h.site,h.aQ⟩,h.ar⟩,h.waits⟩,h.aE⟩,h.bq⟩,h.up⟩,h.cX⟩,λv hv=>by simpa using h.here v hv⟩,λv hv=>?_⟩,h.oh⟩;simp only[rJ,Bool.and_eq_true,decide_eq_true_eq,LB,bne_iff_ne];exact⟨⟨h.oe v hv,h.og v hv⟩,h.apart v hv⟩
def bE.ok {s:Server} (h:bE s):eI s:=F4 (iU.2 h)
def LC {l:List aJ} {v:aJ} {d:ao} (h:∃x∈l,x.bD=d):∃x∈fF l v,x.bD=d:=let⟨x,hx,e⟩:=h;⟨x,mS.2 (.inr hx),e⟩
def F9 {α:Type} {l:List α} {n:Nat} {x:α} (h:x∈l.take n++l.drop (n+1)):x∈l:=(zC l n).subset h
def bE.wO {s:Server} (h:bE s) (hp:0<=fo s):bE (mT s (fo s).toNat):=by
 obtain⟨hl,od,hg⟩:=zn hp;have hm:=bK hl;have aj:=h.ok.wO hp;refine⟨h.site,h.aQ,aj.ar,aj.waits,h.aE,h.bq,h.up,h.cX,λv hv=>?_,λv hv=>h.oe v (F9 hv),λv hv=>h.og v (F9 hv),λv hv=>qv (aj.apart v hv),λd hd=>LC (h.oh d hd)⟩;rcases mS.1 hv with rfl|hv
 .exact h.oe _ hm
 exact h.here v hv
def bE.mc:∀(n:Nat) {s:Server},bE s->bE (mc n s)
 |0,_,h=>h
 |n+1,s,h=>by
  unfold Go.Proofs.YtldbakcpcfdlaaaGreat.mc;split
  .exact h
  exact bE.mc n (h.wO om)
def bE.F5 {s:Server} (h:bE s):bE (ir s):=bE.mc _ h
def bE.iB {s:Server} (h:bE s):bE (BY s):=
 ⟨h.site,h.aQ,h.ar,h.waits,h.aE,B1 h.bq List.filter_sublist,λe=>by show s.bq.filter _=[];rw[h.up e];rfl,h.cX,h.here,h.oe,h.og,h.apart,h.oh⟩
def UI (s:Server):(ir s).site=s.site/\(ir s).up=s.up/\(ir s).aQ=s.aQ/\(ir s).aE=s.aE/\(ir s).bq=s.bq:=LA _ s
def UJ (v:Value) (l:List (List AV)) (x:List AV) (i:Nat) (hi:i<=l.length) (hl:l.length<=1048576) (dJ:∀r∈l,r.length=3) (hx:x.length=3):
 er prog 361 [AV.val v,AV.int i,AV.rows 3 [x]] [Own.row v 125 3 l] [] (AV.rows 3 (l.take i++x::l.drop i)):=by
 refine er.intro 95 func361 rfl ntmps361 rfl aq (λW I a U=>?_);obtain⟨q,cap,rfl,lW⟩:=U.yM 0 rfl;refine aV λI a w U=>?_;refine U.o (EG dw cM .tt .tt ⟨by omega,by omega⟩ lW) λU=>?_;refine aX λI a w U=>?_;refine U.o (yh dw .tt) λU=>?_;rw[show(([x]:List (List AV)).length:Int)=1 from rfl] at U;refine aI λI a w U=>?_;refine U.cd (λab=>?_) λab=>?_
 .exfalso;simp at ab;skip
 refine gy λI a w U=>?_;refine cz (λah=>?_) λah=>?_
 .refine aA λI a w U=>?_;refine U.append 0 rfl dw cM rfl .tt .tt rfl (by simp only[List.length_singleton];omega) λuH a w U=>?_;obtain⟨I,U⟩:=U.fr 0 25;have U:=U.drop 0;refine al λI a w U=>?_;refine U.jO rfl (.cons .x .nil) rfl ?_;exact congrArg (AV.rows 3) (by rw[show i=l.length by omega];simp)
 refine aR λI a w U=>?_;refine U.o (EI dw .tt) λU=>?_;refine al λI a w U=>?_;refine cz (λai=>?_) λai=>?_
 .refine zt ?_;have bH:l≠[]:=by intro e;rw[e] at hi ah;simp at hi ah;omega
  obtain⟨b,nc,he,nd,ng,l8,U⟩:=U.rk 0 rfl bH;simp only[Value.slice.injEq] at he;obtain⟨rfl,_,rfl⟩:=he;have hA:(l.take i).flatten.length=i*3:=by rw[fL λr hr=>dJ r (List.mem_of_mem_take hr),List.length_take,Nat.min_eq_left hi]
  have hB:(l.drop i).flatten.length=(l.length-i)*3:=by rw[fL λr hr=>dJ r (List.mem_of_mem_drop hr),List.length_drop]
  rw[show l.flatten=(l.take i).flatten++(l.drop i).flatten by rw[<-List.flatten_append,List.take_append_drop],List.map_append] at U;have fX:([x]:List (List AV)).flatten.length=3:=by simpa using hx
  have hlen:(l.take i++x::l.drop i).length=l.length+1:=by simp;omega
  have mf:∀r∈l.take i++x::l.drop i,r.length=3:=λr hr=>(List.mem_append.1 hr).elim (λh=>dJ r (List.mem_of_mem_take h)) λh=>(List.mem_cons.1 h).elim (λe=>e▸hx) λh=>dJ r (List.mem_of_mem_drop h);have pn:(l.take i++x::l.drop i).flatten.map some=(l.take i).flatten.map some++([x]:List (List AV)).flatten.map some++(l.drop i).flatten.map some:=by simp
  refine aA λI a w U=>?_;refine U.o (rm (hi:=i) dw cM .tt .tt rfl om om) λU=>?_;refine bV λI a w U=>?_;refine U.EJ (je:=l.length+1-i) (xs:=(l.take i).flatten) 0 dw sW cM rfl bA .tt .tt om om rfl (by rw[List.drop_zero,List.append_assoc];exact jP _ (List.length_map _)) hA om om om rfl λ{gb zq a w} uc we U=>?_;refine aV λI a w U=>?_;refine U.o (jv (lo:=i) dw cM .tt .tt rfl om om) λU=>?_;refine U.m λU=>?_;refine U.wb 1 dw cM .tt .tt rfl be (by simp only[List.length_singleton];omega) (by simp only[List.length_singleton,List.length_append,List.length_map,List.length_replicate,hA];omega) rfl λU=>?_;refine zt ?_;refine U.dt 8 ?_;simp only[TD];refine ef ?_;refine .o (jv (lo:=i+1) dw cM .tt .tt om om om) ?_;refine cy ?_;refine .o (jv (lo:=i) dw cM .tt .tt rfl om om) ?_;refine .nil ?_;intro I a w U;refine U.wc (xs:=(l.drop i).flatten) 1 0 dw cM .tt .tt rfl rfl (by rw[List.append_assoc,uw _ (by simp only[List.length_map,hA];omega)];exact jP _ (List.length_map _)) (by rw[hB,Nat.min_eq_left om]) (by rw[kx (by simp only[List.length_map,List.length_append,List.length_replicate,fX,hA];omega)];simp only[List.length_append,List.length_map,List.length_replicate,hA,hB];omega) rfl λU=>?_;rw[ES (by simp only[List.length_map,hA];omega) (by simp only[List.length_map,fX];omega) (by simp only[List.length_map,List.length_replicate,fX,hB];omega)] at U;have U:=U.rl (l:=l.take i++x::l.drop i) (cap:=zq) 1 rfl (by simp only[List.length_append,List.length_map,List.length_drop,List.length_replicate,hA,hB,fX];omega) mf om om om (by rw[pn,hlen];exact jP _ (by simp only[List.length_append,List.length_map,hA,hB,fX];omega));rw[show i+(l.length+1-i)=(l.take i++x::l.drop i).length by omega] at U;obtain⟨I,U⟩:=U.fr 1 9;have U:=U.drop 0;refine ax λI a w U=>?_;exact U.jO rfl (.cons (by first|exact .t rfl|exact .nil rfl) .nil) rfl rfl
 refine zt ?_;have bH:l≠[]:=by intro e;rw[e] at hi ah;simp at hi ah;omega
 obtain⟨b,nc,he,nd,ng,l8,U⟩:=U.rk 0 rfl bH;simp only[Value.slice.injEq] at he;obtain⟨rfl,_,rfl⟩:=he;have hA:(l.take i).flatten.length=i*3:=by rw[fL λr hr=>dJ r (List.mem_of_mem_take hr),List.length_take,Nat.min_eq_left hi]
 have hB:(l.drop i).flatten.length=(l.length-i)*3:=by rw[fL λr hr=>dJ r (List.mem_of_mem_drop hr),List.length_drop]
 rw[show l.flatten=(l.take i).flatten++(l.drop i).flatten by rw[<-List.flatten_append,List.take_append_drop],List.map_append] at U;have fX:([x]:List (List AV)).flatten.length=3:=by simpa using hx
 have hlen:(l.take i++x::l.drop i).length=l.length+1:=by simp;omega
 have mf:∀r∈l.take i++x::l.drop i,r.length=3:=λr hr=>(List.mem_append.1 hr).elim (λh=>dJ r (List.mem_of_mem_take h)) λh=>(List.mem_cons.1 h).elim (λe=>e▸hx) λh=>dJ r (List.mem_of_mem_drop h);have pn:(l.take i++x::l.drop i).flatten.map some=(l.take i).flatten.map some++([x]:List (List AV)).flatten.map some++(l.drop i).flatten.map some:=by simp
 refine aR λI a w U=>?_;refine U.o (rm (hi:=l.length+1) dw cM .tt .tt om om om) λU=>?_;refine df λI a w U=>?_;refine U.o (jv (lo:=i+1) dw cM .tt .tt om om om) λU=>?_;refine U.overlaps (tR:=4) 0 func370 rfl aq aq aq dw cM bA .tt be .tt rfl rfl λU=>?_;refine al λI a w U=>?_;refine U.cd (λaG=>?_) λaG=>?_
 .refine wp_seq ?_;refine U.dt 8 ?_;simp only[TD];refine ef ?_;refine .o (jv (lo:=i+1) dw cM .tt .tt om om om) ?_;refine cy ?_;refine .o (jv (lo:=i) dw cM .tt .tt rfl om om) ?_;refine .nil ?_;intro I a w U;refine U.wc (xs:=(l.drop i).flatten) 0 0 dw cM .tt .tt rfl rfl (by rw[List.append_assoc,uw _ (by simp only[List.length_map,hA];omega)];exact jP _ (List.length_map _)) (by rw[hB];congr 1;omega) (by simp only[List.length_append,List.length_map,List.length_replicate,hA,hB];omega) rfl λU=>?_;refine aA λI a w U=>?_;refine U.o (jv (lo:=i) dw cM .tt .tt rfl om om) λU=>?_;refine U.m λU=>?_;refine U.wb 0 dw cM .tt .tt rfl be (by simp only[List.length_singleton];omega) (by rw[kx (by simp only[List.length_map,List.length_append,List.length_replicate,hA,hB];omega)];simp only[List.length_singleton,List.length_append,List.length_map,List.length_replicate,hA,hB];omega) rfl λU=>?_;rw[ER (by simp only[List.length_map,hA];omega) (by simp only[List.length_map,fX];omega) (by simp only[List.length_map,List.length_replicate,fX];omega)] at U;have U:=U.rl (l:=l.take i++x::l.drop i) (cap:=cap) 0 rfl (by simp only[List.length_append,List.length_map,List.length_drop,List.length_replicate,hA,hB,fX];omega) mf om om om (by rw[pn,hlen];exact jP _ (by simp only[List.length_append,List.length_map,hA,hB,fX];omega));rw[show l.length+1=(l.take i++x::l.drop i).length by omega] at U;obtain⟨I,U⟩:=U.fr 0 0;have U:=U.drop 0;refine ax λI a w U=>?_;exact U.jO rfl (.cons (by first|exact .t rfl|exact .nil rfl) .nil) rfl rfl
 exfalso;simp at aG;skip
def UK (l:List ao) (d:ao):
 Fn prog 327 [bm l,d.av] (AV.int (gB l d)):=by
 refine Fn.go 19 func327 ntmps327 (λW I a U=>?_);have hle:=U.dD (t:=0) rfl;refine bP λI a w U=>?_;refine St.lo (σ:=Nat) (run 2 4 (run 11 8 [])) ⟨λk=>[(8,AV.int k)],λk=>[],λk=>k<=l.length/\∀i,i<k->(λe=>decide (e=d)) (ae l i)=false⟩ (λk=>l.length-k) 0 U ?aD ?bh;case aD=>exact⟨Nat.zero_le _,λi hi=>by omega⟩
 rintro k I a w aj U;obtain⟨hk,aT⟩:=aj;refine al λI a w U=>?_;refine cz (λab=>?_) λab=>?_
 .refine ax λI a w U=>?_;refine U.dk ?_;refine fQ ?_;refine .o (n1 [_,_,_] [_,_,_] yU rfl rfl .tt .tt)<|.nil ?_;intro I a w U;refine ba ?_;refine U.cd (λah=>?_) λah=>?_
  .rw[zx] at ah;rw[decide_eq_true_eq] at ah;refine cK ?_;exact cj (mQ ab aT (decide_eq_true ah.symm)).symm
  rw[zx] at ah;rw[decide_eq_false_iff_not] at ah;refine ax λI a w U=>?_;exact U.ag (k+1) (⟨ab,λi h1=>by rcases Nat.lt_succ_iff_lt_or_eq.1 h1 with h|h;exact aT i h;rw[h];exact decide_eq_false λe=>ah e.symm⟩)
 refine zt ?_;refine aW ?_;exact cj (l9 om aT).symm
def zE (l:List ao) (d:ao):
 Fn prog 293 [bm l,d.av] (AV.bool (decide (0<=gB l d))):=by
 refine Fn.go 9 func293 ntmps293 (λW I a U=>?_);refine aR λI a w U=>?_;refine U.o (.cl (UK ..)) λU=>?_;refine cK ?_;rfl
def wP (s:Server) (key:Int) (hl:s.aQ.length=3):
 Fn prog 291 [s.av,AV.int key] (AV.bool (fR s key)):=by
 refine Fn.go 13 func291 ntmps291 (λW I a U=>?_);refine aV λI a w U=>?_;refine U.o (.c1 (zi ..)) λU=>?_;refine aV λI a w U=>?_;refine U.q .T (KI (λhg=>FW s key hg hl) (an .ag (an .ag aH))) λU=>?_;refine ry ?_;rfl
def LD (s:Server) (d:ao):
 Fn prog 292 [s.av,d.av] (AV.bool (nC s d)):=by
 refine Fn.go 16 func292 ntmps292 (λW I a U=>?_);refine df λI a w U=>?_;refine U.o (.cl (qp ..)) λU=>?_;refine bV λI a w U=>?_;refine U.q .F (.cl (zE ..)) λU=>?_;refine cK ?_;rfl
def LF (v:aJ) (d:ao):
 Fn prog 360 [v.av,AV.ptr d.cells] (AV.bool (pk d v)):=by
 refine Fn.go 8 func360 ntmps360 (λW I a U=>?_);refine bV λI a w U=>?_;refine U.o (.cl (zE ..)) λU=>?_;refine aW ?_;rfl
def fq {α:Type} [Inhabited α] {f:α->List AV} {l:List α} {i:Nat} (h:i<l.length):(l.map f)[i]?=some (f (ae l i)):=by rw[List.getElem?_map,JB h];rfl
def Ga {α:Type}:∀{l:List (List α)} {sz:Nat},(∀r∈l,r.length=sz)->∀{i:Nat},l.flatten.drop (i*sz)=(l.drop i).flatten
 |l,sz,h,0=>by simp
 |[],sz,h,i+1=>by simp
 |x::r,sz,h,i+1=>by
  have hx:x.length=sz:=h x be;have ih:=Ga (l:=r) (sz:=sz) (λy hy=>h y (by simp[hy])) (i:=i);rw[List.flatten_cons,List.drop_succ_cons,<-ih,show(i+1)*sz=x.length+i*sz by rw[hx,Nat.succ_mul,Nat.add_comm],List.drop_append];simp
def B2 {α:Type} [Inhabited α] {p:α->Bool} {l:List α} (h:0<=dK p l):(dK p l).toNat<l.length/\p (ae l (dK p l).toNat)=true/\∀i,i<(dK p l).toNat->p (ae l i)=false:=by
 unfold dK at*;split at h
 .rename_i k hk;obtain⟨h1,h2,h3⟩:=List.findIdx?_eq_some_iff_getElem.1 hk;refine⟨by simpa using h1,by simpa[ae,h1] using h2,λi hi=>?_⟩;have o3:i<k:=by simpa using hi
  have jN:i<l.length:=by omega
  have:=h3 i o3;simpa[ae,jN] using this
 omega
def kp {α:Type} (p:α->Bool) (l:List α) (j:Nat):List α:=(l.take j).filter λd=>!p d
def gW {α:Type} (p:α->Bool) (l:List α) (j:Nat):List α:=kp p l j++l.drop (kp p l j).length
section
variable {α:Type} {p:α->Bool} {l:List α} {j:Nat}
def Gb:(kp p l j).length<=j:=by
 have h1:=List.length_filter_le (λd=>!p d) (l.take j);have h2:(l.take j).length<=j:=by simp;omega
 unfold kp;omega
def UL (h:j<=l.length):(gW p l j).length=l.length:=by
 have:=Gb (p:=p) (l:=l) (j:=j);unfold gW;simp;omega
def UM:kp p l l.length=l.filter λd=>!p d:=by unfold kp;rw[List.take_length]
variable [Inhabited α]
def B3 (h:j<l.length) (hp:p (ae l j)=false):kp p l (j+1)=kp p l j++[ae l j]:=mU h (by rw[hp];rfl)
def zF (h:j<l.length) (hp:p (ae l j)=true):kp p l (j+1)=kp p l j:=mV h (by rw[hp];rfl)
def UN (h:j<l.length):ae (gW p l j) j=ae l j:=by
 have:=Gb (p:=p) (l:=l) (j:=j);unfold gW ae;rw[List.getD_eq_getElem?_getD,List.getD_eq_getElem?_getD,List.getElem?_append_right this,List.getElem?_drop];congr 2;omega
def UO (h:j<l.length) (hp:p (ae l j)=false):(gW p l j).set (kp p l j).length (ae l j)=gW p l (j+1):=by
 have:=Gb (p:=p) (l:=l) (j:=j);have hi:(kp p l j).length<l.length:=by omega
 unfold gW;rw[B3 h hp,List.set_append_right _ _ (Nat.le_refl _),Nat.sub_self];have e:l.drop (kp p l j).length=l[(kp p l j).length]::l.drop ((kp p l j).length+1):=List.drop_eq_getElem_cons hi;rw[e,List.set_cons_zero];simp
def UP (h:j<l.length) (hp:p (ae l j)=true):gW p l (j+1)=gW p l j:=by unfold gW;rw[zF h hp]
def Gc (h:0<=dK p l):kp p l ((dK p l).toNat+1)=l.take (dK p l).toNat:=by
 obtain⟨h1,h2,h3⟩:=B2 h;rw[zF h1 h2];unfold kp;rw[List.filter_eq_self];intro x hx;obtain⟨i,hi,rfl⟩:=List.getElem_of_mem hx;have o3:i<(dK p l).toNat/\i<l.length:=by simp at hi;omega
 have:=h3 i o3.1;simpa[ae,o3.2] using this
def LG (h:0<=dK p l):gW p l ((dK p l).toNat+1)=l:=by
 have h1:=(B2 h).1;unfold gW;rw[Gc h,List.length_take,Nat.min_eq_left om,List.take_append_drop]
def UQ (h:dK p l<0):(l.filter λd=>!p d)=l:=by
 rw[List.filter_eq_self];intro x hx;obtain⟨i,hi,rfl⟩:=List.getElem_of_mem hx;have:=BS h i hi;simpa[ae,hi] using this
end
def UR (v:Value) (l:List (List AV)) (i:Nat) (hi:i<l.length) (hl:l.length<=1048576) (dJ:∀r∈l,r.length=7):
 bG prog 364 [AV.val v,AV.int i,AV.int ((i:Int)+1)] [Own.row v 54 7 l] (λ_:Value=>True) (λu=>[Own.row u 54 7 (l.take i++l.drop (i+1))]) AV.val:=by
 refine bG.intro 33 func364 rfl ntmps364 rfl aq (λW I a U=>?_);obtain⟨q,cap,rfl,lW⟩:=U.yM 0 rfl;refine df λI a w U=>?_;refine U.o (K3 (lo:=i) (hi:=i+1) (mx:=l.length) du bI .tt .tt .tt .tt rfl om rfl om om om) λU=>?_;refine aI λI a w U=>?_;refine U.cd (λab=>?_) λab=>?_
 .exfalso;simp only[B] at ab;omega;skip
 refine aI λI a w U=>?_;have bH:l≠[]:=by intro e;rw[e] at hi;simp at hi
 obtain⟨b,nc,he,nd,ng,l8,U⟩:=U.rk 0 rfl bH;simp only[Value.slice.injEq] at he;obtain⟨rfl,_,rfl⟩:=he;have hF:l.flatten.length=l.length*7:=fL dJ;have hB:(l.drop (i+1)).flatten.length=(l.length-(i+1))*7:=by rw[fL λr hr=>dJ r (List.mem_of_mem_drop hr),List.length_drop]
 have hlen:(l.take i++l.drop (i+1)).length=i+(l.length-(i+1)):=by simp;omega
 have mf:∀r∈(l.take i++l.drop (i+1)),r.length=7:=λr hr=>(List.mem_append.1 hr).elim (λh=>dJ r (List.mem_of_mem_take h)) λh=>dJ r (List.mem_of_mem_drop h);refine U.dt 6 ?_;simp only[TD];refine cy ?_;refine .o (rm (hi:=i) du bI .tt .tt rfl om om) ?_;refine cy ?_;refine .o (FE (lo:=i+1) du bI .tt .tt om om om) ?_;refine .nil ?_;intro I a w U;refine U.K5 (xs:=(l.drop (i+1)).flatten) 0 du bI .tt .tt rfl (by rw[List.drop_append_of_le_length (by simp only[List.length_map,hF];exact Nat.mul_le_mul_right _ om),<-List.map_drop,Ga dJ];exact jP _ (List.length_map _)) hB om (by simp only[List.length_append,List.length_map,List.length_replicate,hF,hB];omega) rfl λU=>?_;refine bV λI a w U=>?_;refine U.o (K4 (lo:=i+(l.length-(i+1))) (hi:=l.length) du bI .tt .tt .tt rfl rfl om om) λU=>?_;refine U.FG 0 du bI rfl j9 .tt om rfl (by rw[kx]<;>simp only[List.length_append,List.length_map,List.length_replicate,hF,hB]<;>omega) λU=>?_;have U:=U.rl (l:=(l.take i++l.drop (i+1))) (cap:=cap) 0 rfl (by rw[kx,kx]<;>(try rw[kx])<;>simp only[List.length_append,List.length_map,List.length_replicate,hF,hB]<;>omega) mf om om om (K9 dJ hi);rw[<-hlen] at U;refine ax λI a w U=>?_;refine U.cE _ [0] rfl (.cons (.t rfl) .nil) trivial rfl rfl
def US {p:ao->Bool} {l:List ao} {j:Nat} {R Y:List (Option AV)} (h:(gW p l j).length=l.length):(over (((gW p l j).map ao.cells).flatten.map some++R) ((kp p l j).length*3) Y).take (((kp p l j).map ao.cells).length*3)=((kp p l j).map ao.cells).flatten.map some:=by
 have hA:((kp p l j).map ao.cells).flatten.length=(kp p l j).length*3:=by
  rw[fL (sz:=3) λr hr=>by obtain⟨d,_,rfl⟩:=List.mem_map.1 hr;rfl,List.length_map]
 have e:((gW p l j).map ao.cells).flatten=((kp p l j).map ao.cells).flatten++((l.drop (kp p l j).length).map ao.cells).flatten:=by
  unfold gW;rw[List.map_append,List.flatten_append]
 rw[List.length_map,e,List.map_append,K8 (by simp only[List.length_append,List.length_map,hA];omega),List.append_assoc];exact List.take_left' (by rw[List.length_map,hA])
def UT (v:Value) (l:List ao) (p:ao->Bool) (fv:AV) (O:Own) (hl:l.length<=1048576) (hf:∀x,x∈l->zh prog fv [x.av] [O] (AV.bool (p x))):
 er prog 282 [AV.val v,fv] [Own.row v 125 3 (l.map ao.cells),O] [Own.row v 125 3 (l.map ao.cells),O] (AV.int (dK p l)):=by
 refine er.intro 19 func282 rfl ntmps282 rfl aq (λW I a U=>?_);refine aA λI a w U=>?_;refine U.o (jL 0 dw .tt rfl) λU=>?_;refine al λI a w U=>?_;refine St.lo (σ:=Nat) (run 2 4 (run 11 8 [])) ⟨λk=>[(8,AV.int k)],λk=>[Own.row v 125 3 (l.map ao.cells),O],λk=>k<=l.length/\∀i,i<k->p (ae l i)=false⟩ (λk=>l.length-k) 0 U ?aD ?bh;case aD=>exact⟨Nat.zero_le _,λi hi=>by omega⟩
 rintro k I a w aj U;obtain⟨hk,aT⟩:=aj;dsimp only at U;refine al λI a w U=>?_;refine U.cd (λab=>?_) λab=>?_
 .simp only[B,List.length_map] at ab;refine bV λI a w U=>?_;obtain⟨b,cap,rfl⟩:=U.iS 0 rfl jr;refine U.o (gv dw cM .tt .tt (λ_=>by simp only[List.length_map];omega)) λU=>?_;refine U.o (p6 0 cM .tt rfl (λ_=>by exact fq ab) rfl) λU=>?_;refine U.K7 [1] (hf _ (bK ab)) .tt (an .tt aH) rfl bA rfl λI a w U=>?_;refine zt ?_;refine U.cd (λah=>?_) λah=>?_
  .refine ax λI a w U=>?_;refine U.cE () [0,1] rfl (.cons (.t rfl) .nil) trivial rfl (cj (mQ ab aT ah).symm)
  refine ax λI a w U=>?_;exact U.ag (k+1) (⟨ab,λi h1=>by rcases Nat.lt_succ_iff_lt_or_eq.1 h1 with h|h;exact aT i h;rw[h];exact ah⟩)
 simp only[B,List.length_map] at ab;refine zt ?_;refine al λI a w U=>?_;refine U.cE () [0,1] rfl (.cons (.t rfl) .nil) trivial rfl (cj (l9 om aT).symm)
def Gd (v:Value) (l:List ao) (p:ao->Bool) (fv:AV) (O:Own) (hl:l.length<=1048576) (hf:∀x,x∈l->zh prog fv [x.av] [O] (AV.bool (p x))):
 bG prog 345 [AV.val v,fv] [Own.row v 125 3 (l.map ao.cells),O] (λ_:Value=>True) (λu=>[Own.row u 125 3 ((l.filter λd=>!p d).map ao.cells),O]) AV.val:=by
 refine bG.intro 42 func345 rfl ntmps345 rfl aq (λW I a U=>?_);refine aV λI a w U=>?_;refine U.eX [0,1] (UT v l p fv O hl hf) (an .tt (an .tt aH)) rfl bA rfl λI a w U=>?_;refine aI λI a w U=>?_;refine U.cd (λab=>?_) λab=>?_
 .refine ax λI a w U=>?_;simp only[B] at ab;refine U.cE v [0,1] rfl (.cons (.t rfl) .nil) trivial (by rw[UQ om];rfl) rfl
 refine wp_skip<|ba<|wp_seq<|wp_seq ?_;simp only[B] at ab;have uc:=Uw p l;have h0:0<=dK p l:=by omega
 obtain⟨h1,h2,h3⟩:=B2 h0;obtain⟨b,cap,rfl⟩:=U.iS 0 rfl jr;rw[show l.map ao.cells=(gW p l ((dK p l).toNat+1)).map ao.cells from by rw[LG h0]] at U;rw[show((gW p l ((dK p l).toNat+1)).map ao.cells).length=(l.map ao.cells).length from by rw[LG h0]] at U;refine aI λI a w U=>?_;refine St.sF (σ:=Nat) (run 3 5 (run 20 16 [])) ⟨λj=>[(6,AV.int j),(5,AV.int (kp p l j).length)],λj=>[Own.row (.slice (some ⟨b,0,none⟩) (l.map ao.cells).length cap) 125 3 ((gW p l (j)).map ao.cells),O],λj=>j<=l.length/\(kp p l j).length<j⟩ (λj=>l.length-j) ((dK p l).toNat+1) U rfl ?aD ?nE ?bh;case aD=>exact⟨by omega,by rw[Gc h0,List.length_take];omega⟩
 case nE=>exact(Env.bt rfl (by exact congrArg AV.int om) (Env.bt rfl (by exact congrArg AV.int (by rw[Gc h0,List.length_take];omega)) Env.le_nil))
 rintro j I a w aj U;obtain⟨hj,zG⟩:=aj;dsimp only at U;have gr:=UL (p:=p) hj;have hle:(l.map ao.cells).length=((gW p l (j)).map ao.cells).length:=by rw[List.length_map,List.length_map,gr]
 refine aA λI a w U=>?_;refine U.o (jL 0 dw .tt rfl) λU=>?_;refine al λI a w U=>?_;refine U.cd (λah=>?_) λah=>?_
 .simp only[B,List.length_map] at ah;have ah:j<l.length:=by omega
  refine aA λI a w U=>?_;rw[hle] at U;refine U.o (gv dw cM .tt .tt (λ_=>by simp only[List.length_map];omega)) λU=>?_;refine U.o (p6 0 cM .tt rfl (λ_=>by show((gW p l j).map ao.cells)[j]?=some (ae l j).cells;rw[<-UN (p:=p) ah];exact fq om) rfl) λU=>?_;refine U.alloc rfl cM fE λb7 I a w U=>?_;refine al λI a w U=>?_;obtain⟨I,U⟩:=U.fb 2 7;refine aA λI a w U=>?_;refine U.K7 [1] (hf _ (bK ah)) .tt (an .tt aH) rfl bA rfl λI a w U=>?_;refine al λI a w U=>?_;refine cz (λai=>?_) λai=>?_
  .refine wp_seq ?_;have hw:(kp p l j).length<(gW p l j).length:=by omega
   refine aV λI a w U=>?_;refine U.o (gv dw cM .tt .tt (λ_=>by simp only[List.length_map];omega)) λU=>?_;refine U.ja 0 cM .tt .tt rfl (by exact fq hw) rfl rfl λa w U=>?_;refine gy λI a w U=>?_;have U:=U.drop 2;rw[Int.toNat_natCast (kp p l j).length] at U;rw[show((gW p l (j)).map ao.cells).set (kp p l j).length (ae l j).cells=(gW p l (j+1)).map ao.cells from by rw[<-UO ah ai,List.map_set]] at U;rw[<-hle] at U;refine U.again (j+1) ?bM ?bN bF ?bO (by repeat(first|exact Env.le_rfl|refine Env.dj rfl ?_));case bM=>omega
   case bN=>exact⟨ah,by rw[B3 ah ai,List.length_append];simp;omega⟩
   case bO=>exact(Env.bt rfl bF (Env.bt rfl (by first|exact congrArg AV.int (by rw[B3 ah ai,List.length_append];simp)|exact congrArg AV.int (by rw[zF ah ai])) Env.le_nil))
  refine aI λI a w U=>?_;have U:=U.drop 2;rw[<-hle,<-UP ah ai] at U;refine U.again (j+1) ?nF ?nG bF ?nH (by repeat(first|exact Env.le_rfl|refine Env.dj rfl ?_));case nF=>omega
  case nG=>exact⟨ah,by rw[zF ah ai];omega⟩
  case nH=>exact(Env.bt rfl bF (Env.bt rfl (by first|exact congrArg AV.int (by rw[B3 ah ai,List.length_append];simp)|exact congrArg AV.int (by rw[zF ah ai])) Env.le_nil))
 simp only[B,List.length_map] at ah;refine zt ?_;refine aA λI a w U=>?_;have bH:((gW p l (j)).map ao.cells)≠[]:=by intro e;have:=congrArg List.length e;simp only[List.length_map,List.length_nil] at this;omega
 obtain⟨b2,nc,he,nd,ng,l8,U⟩:=U.rk 0 rfl bH;simp only[Value.slice.injEq,Option.some.injEq,Addr.mk.injEq] at he;obtain⟨⟨rfl,_⟩,_,rfl⟩:=he;refine U.o (FE (lo:=(kp p l j).length) dw cM .tt .tt rfl jr (by rw[hle];exact nd)) λU=>?_;have hF:((gW p l (j)).map ao.cells).flatten.length=((gW p l (j)).map ao.cells).length*3:=fL (λr hr=>by obtain⟨d,_,rfl⟩:=List.mem_map.1 hr;rfl);refine U.FG 0 dw cM rfl gM .tt jr rfl (by simp only[List.length_append,List.length_map,List.length_replicate,hF,gr];omega) λU=>?_;have U:=U.rl (l:=(kp p l j).map ao.cells) (cap:=cap) 0 rfl (by rw[kx]<;>simp only[List.length_append,List.length_map,List.length_replicate,hF,gr]<;>simp only[List.length_map,gr] at nd<;>omega) (λr hr=>by obtain⟨d,_,rfl⟩:=List.mem_map.1 hr;rfl) (by rw[List.length_map];simp only[List.length_map,gr] at nd;omega) l8 ng (US gr);rw[show((kp p l j).map ao.cells).length=(kp p l j).length from List.length_map _] at U;refine aA λI a w U=>?_;refine U.o (rm (hi:=(kp p l j).length) dw cM .tt .tt rfl (by simp only[List.length_map,gr] at nd;omega) l8) λU=>?_;refine al λI a w U=>?_;obtain rfl:j=l.length:=by omega
 rw[UM] at U;refine U.cE _ [0,1] rfl (.cons (.t rfl) .nil) trivial (by rw[List.length_map];rfl) rfl
def Server.UU (s:Server) (x:AV):AV:=.agg [.int s.site,.bool s.up,l4 s.aQ,cm s.ar,cm s.waits,bm s.aE,x]
def UW {s:Server} {v:aJ} (hk:dp v.key=true):(fR s v.key&&!hasB (λd=>!nC s d) v.aK)=lz s v:=by
 have e:=zj (p:=λd=>!nC s d) (l:=v.aK);simp only[Bool.not_not] at e;unfold fR lz BX;rw[hk,e];simp
def UX (s:Server):(s.bq.filter λd=>!(!g8 s d))=s.bq.filter (g8 s):=by simp
def UY (s:Server) (d:ao):
 Fn prog 363 [d.av,AV.ptr s.cells] (AV.bool (!nC s d)):=by
 refine Fn.go 8 func363 ntmps363 (λW I a U=>?_);refine aR λI a w U=>?_;refine U.o (.c2 (LD ..)) λU=>?_;refine cK ?_;rfl
def UZ (s:Server) (v:aJ) (hl:s.aQ.length=3) (hk:dp v.key=true):
 Fn prog 362 [v.av,AV.ptr s.cells] (AV.bool (lz s v)):=by
 refine Fn.go 15 func362 ntmps362 (λW I a U=>?_);refine bV λI a w U=>?_;refine U.o (.c2 (wP s v.key hl)) λU=>?_;refine aV λI a w U=>?_;refine U.q .T (nj (an .tt aH)) λU=>?_;refine U.q .T (.cl (Lr v.aK (λd=>!nC s d) _ (λd _=>Fn.val (UY s d)))) λU=>?_;refine ry ?_;exact bT (UW hk)
def U0 (s:Server) (d:ao) (x:AV):
 Fn prog 348 [s.UU x,d.av] (AV.bool (g8 s d)):=by
 refine Fn.go 9 func348 ntmps348 (λW I a U=>?_);refine bV λI a w U=>?_;refine U.o (nj (an .tt aH)) λU=>?_;refine U.o (.cl (Ls s.waits (pk d) _ (λv _=>Fn.val (LF v d)))) λU=>?_;refine aW ?_;exact bT (by unfold g8;rw[<-zj];simp)
def U1 (b:Nat) (s:Server) (x:AV) (d:ao):
 er prog 365 [d.av,AV.val (.pointer (some ⟨b,0,none⟩))] [Own.box b 95 [AV.int s.site,AV.bool s.up,l4 s.aQ,cm s.ar,cm s.waits,bm s.aE,x]] [Own.box b 95 [AV.int s.site,AV.bool s.up,l4 s.aQ,cm s.ar,cm s.waits,bm s.aE,x]] (AV.bool (!g8 s d)):=by
 refine er.intro 8 func365 rfl ntmps365 rfl aq (λW I a U=>?_);refine aR λI a w U=>?_;refine U.o (.c2 (U0 s d x)) λU=>?_;refine ax λI a w U=>?_;refine U.cE () [0] rfl (.cons (.t rfl) .nil) trivial rfl rfl
def U2 {s x:Server} (h:ir x=ir s) (hp:fo x<0):g9 s={x with bq:=x.bq.filter λd=>!(!g8 x d)}:=by
 have e:=Lx hp;unfold g9 BY;rw[<-h,e,UX]
end Go.Proofs.YtldbakcpcfdlaaaGreat
