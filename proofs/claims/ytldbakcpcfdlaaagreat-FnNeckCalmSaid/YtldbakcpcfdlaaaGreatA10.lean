/- Part 10: contracts of functions, plain facts. -/
import Derived.Test.YtldbakcpcfdlaaaGreatA09
set_option linter.all false
set_option maxRecDepth 100000
set_option maxHeartbeats 4000000
namespace Go.Proofs.YtldbakcpcfdlaaaGreat
open Go Go.RowKit Tryz
attribute [local irreducible] wpList Code.wp Ok
def ic (n a b:Int):
 Fn prog 86 [AV.int n,AV.int a,AV.int b] (AV.bool (aQ n a b)):=by
 refine Fn.go 15 func86 ntmps86 (λW I a U=>?_);refine td λI a w U=>?_;refine U.rt ?_;exact bI (by simp only[aQ,ge_iff_le])
def px (n:Int):
 Fn prog 170 [AV.int n] (AV.bool (cQ n)):=by
 refine Fn.go 5 func170 ntmps170 (λW I a U=>?_);refine aF λI a w U=>?_;refine U.o (.cl (ic ..)) λU=>?_;refine bk ?_;rfl
def rL (n:Int):
 Fn prog 177 [AV.int n] (AV.bool (cY n)):=by
 refine Fn.go 5 func177 ntmps177 (λW I a U=>?_);refine aF λI a w U=>?_;refine U.o (.cl (ic ..)) λU=>?_;refine bk ?_;rfl
def th (s:cA):
 Fn prog 179 [s.av] (AV.bool (c7 s)):=by
 refine Fn.go 11 func179 ntmps179 (λW I a U=>?_);refine bj λI a w U=>?_;refine U.o (.cl (ic ..)) λU=>?_;refine bc λI a w U=>?_;refine U.q .T (.cl (px ..)) λU=>?_;refine dh ?_;rfl
def tj (s t:cA):
 Fn prog 250 [s.av,t.av] (AV.bool (c8 s t)):=by
 refine Fn.go 24 func250 ntmps250 (λW I a U=>?_);refine Ae λI a w U=>?_;refine U.rt ?_;rfl
def nR (n:Int):
 Fn prog 175 [AV.int n] (AV.int (ct n)):=by
 refine Fn.go 8 func175 ntmps175 (λW I a U=>?_);refine aF λI a w U=>?_;refine U.o (.c1 (px ..)) λU=>?_;refine ao λI a w U=>?_;refine cz (λae=>?_) λae=>?_
 .refine bk ?_;exact eW (by simp[ct,ae])
 refine bw λI a w U=>?_;refine U.o (uV .tt .c (λ_=>by simp[cQ,aQ] at ae;omega)) λU=>?_;refine bk ?_;exact eW (by simp[ct,ae])
def jv (l:List an) (k:Nat):Int:=if k=0 then-1 else(ab l (k-1)).key
def KU (l:List an) (k:Nat):jv l (k+1)=(ab l k).key:=by simp[jv]
def KV {l:List an} {k:Nat} (hk:k<l.length):dm (jv l k) (l.drop k)=(aQ (ab l k).key (jv l k+1) 5&&c7 (ab l k).ax&&dm (jv l (k+1)) (l.drop (k+1))):=by
 rw[j0 hk,KU];rfl
def KW {l:List an} {k:Nat} (hp:-1<=jv l k):(!cY (ab l k).key||!c7 (ab l k).ax||(decide (0<(k:Int))&&decide ((ab l k).key<=(ab l ((k:Int)-1).toNat).key)))=!(aQ (ab l k).key (jv l k+1) 5&&c7 (ab l k).ax):=by
 rw[show((k:Int)-1).toNat=k-1 from by omega];rcases Nat.eq_zero_or_pos k with rfl|h
 .simp[jv,cY,aQ]
 have h0:k≠0:=by omega
 have Ec:-1<=(ab l (k-1)).key:=by simpa[jv,h0] using hp
 have h1:(0<(k:Int)):=by omega
 simp only[jv,if_neg h0,cY,aQ];generalize (ab l (k-1)).key=p at*;generalize (ab l k).key=q at*;rw[Bool.eq_iff_iff];cases c7 (ab l k).ax<;>simp[h1]<;>omega
def Un {l:List an} {k:Nat} (hk:k<l.length) (hd:bP l=dm (jv l k) (l.drop k)) (hp:-1<=jv l k) (h:(aQ (ab l k).key (jv l k+1) 5&&c7 (ab l k).ax)=true):
 k+1<=l.length/\bP l=dm (jv l (k+1)) (l.drop (k+1))/\-1<=jv l (k+1):=by
 refine⟨hk,by rw[hd,KV hk,h,Bool.true_and],?_⟩;rw[KU];simp[aQ] at h;omega
def Uo {l:List an} {k:Nat} (hk:k<l.length) (hd:bP l=dm (jv l k) (l.drop k)) (h:(aQ (ab l k).key (jv l k+1) 5&&c7 (ab l k).ax)=false):false=bP l:=by
 rw[hd,KV hk,h,Bool.false_and]
def m7 (l:List an):
 Fn prog 90 [bf l] (AV.bool (bP l)):=by
 refine Fn.go 44 func90 ntmps90 (λW I a U=>?_);have hle:=U.eh (t:=0) rfl;refine aq λI a w U=>?_;refine St.lo (σ:=Nat) (run 42 2 []) ⟨λk=>[(3,AV.int k)],λk=>[],λk=>k<=l.length/\bP l=dm (jv l k) (l.drop k)/\-1<=jv l k⟩ (λk=>l.length-k) 0 U ?aH ?bx;case aH=>exact⟨by simp,rfl,by simp[jv]⟩
 rintro k I a w al U;obtain⟨hk,hd,hp⟩:=al;refine aV λI a w U=>?_;refine cz (λae=>?_) λae=>?_
 .refine zt ?_;refine U.dk ?_;refine eP ?_;refine .o (.c1 (rL ..)) ?_;refine jJ ?_;refine .q .F (.cl (th ..)) ?_;refine mq ?_;refine dq ?_;refine .nil ?_;intro I a w U;refine ba ?_;refine U.cd (λah=>?_) λah=>?_
  .rw[KW hp] at ah;simp only[Bool.not_eq_true'] at ah;refine bk ?_;exact bI (Uo ae hd ah)
  rw[KW hp] at ah;simp only[Bool.not_eq_false'] at ah;refine aM λI a w U=>?_;exact U.ag (k+1) (Un ae hd hp ah)
 refine zt ?_;refine bk ?_;exact bI (by rw[hd,List.drop_eq_nil_of_le om];rfl)
def nt {b:Bool} (h:(!b)=true):b=false:=by simpa using h
def nf {b:Bool} (h:(!b)=false):b=true:=by simpa using h
def Av (l:List an) (k:Nat) (t:Int):decide (t<=(ab l k).ax.time)=!decide ((ab l k).ax.time<t):=by
 rw[Bool.eq_iff_iff];simp
def Ed (v:aD):Bool:=cY v.key&&c7 v.ax&&aQ v.val 0 9999&&eN v.aA&&aQ v.call 1 99&&bP v.aS
def Aw (v:aD):(!cY v.key||!c7 v.ax||!aQ v.val 0 9999||!eN v.aA||!aQ v.call 1 99||!bP v.aS)=!Ed v:=by simp[Ed]
def vx (v:aD):eD v=(Ed v&&Jn v.ax.time v.aS):=rfl
def Ax (v:aD):
 Fn prog 251 [v.av] (AV.bool (eD v)):=by
 refine Fn.go 56 func251 ntmps251 (λW I a U=>?_);have Ee:v.aS.length<=9223372036854775807:=by
  obtain⟨cs,_,hc⟩:=U.env 0 _ rfl;obtain⟨u,_,hu,_⟩:=hc.get (i:=6) rfl;exact xd hu
 refine bj λI a w U=>?_;refine U.o (.c1 (rL ..)) λU=>?_;refine bj λI a w U=>?_;refine U.q .F (.cl (th ..)) λU=>?_;refine bK λI a w U=>?_;refine U.q .F (.cl (ic ..)) λU=>?_;refine bK λI a w U=>?_;refine U.q .F (.cl (ic ..)) λU=>?_;refine bK λI a w U=>?_;refine U.q .F (.cl (ic ..)) λU=>?_;refine bK λI a w U=>?_;refine U.q .F (.cl (m7 ..)) λU=>?_;refine aq λI a w U=>?_;refine U.cd (λae=>?_) λae=>?_
 .rw[show aQ v.aA 0 1=eN v.aA from rfl,Aw v] at ae;replace ae:=nt ae;refine bk ?_;exact bI (by rw[vx,ae];rfl)
 rw[show aQ v.aA 0 1=eN v.aA from rfl,Aw v] at ae;replace ae:=nf ae;refine ao λI a w U=>?_;refine St.lo (σ:=Nat) (run 2 2 (run 18 38 [])) ⟨λk=>[(3,AV.int k)],λk=>[],λk=>k<=v.aS.length/\∀i,i<k->(λi=>decide ((ab v.aS i).ax.time<v.ax.time)) i=true⟩ (λk=>v.aS.length-k) 0 U ?aH ?bx;case aH=>exact⟨by simp,λi hi=>by omega⟩
 rintro k I a w al U;obtain⟨hk,aU⟩:=al;have hle:v.aS.length<=9223372036854775807:=Ee;refine cn λI a w U=>?_;refine cz (λah=>?_) λah=>?_
 .refine ao λI a w U=>?_;refine U.cd (λaj=>?_) λaj=>?_
  .rw[Av] at aj;replace aj:=nt aj;refine bk ?_;exact bI (by rw[vx,ae];exact(eX (f:=(λi=>decide ((ab v.aS i).ax.time<v.ax.time))) ah aj).symm)
  rw[Av] at aj;replace aj:=nf aj;refine aM λI a w U=>?_;exact U.ag (k+1) (⟨by omega,fO aU aj⟩)
 refine zt ?_;refine bk ?_;exact bI (by rw[vx,ae];exact(eO aU om).symm)
def Ef (a b:aD):
 Fn prog 197 [a.av,b.av] (AV.bool (ga a b)):=by
 refine Fn.go 24 func197 ntmps197 (λW I a U=>?_);refine Kk λI a w U=>?_;refine U.q .T2 (.cl (tj ..)) λU=>?_;refine qx ?_;rfl
def Eg (l:List an) (k:Nat):(!cY (ab l k).key||!c7 (ab l k).ax||(decide (0<(k:Int))&&!dF (ab l ((k:Int)-1).toNat) (ab l k)))=!et jP dF l k:=by
 rw[<-rE];simp[jP]
def KX (l:List an) (k:Nat):(!cY (ab l k).key||!c7 (ab l k).ax||(decide (0<(k:Int))&&(decide ((ab l k).key<(ab l ((k:Int)-1).toNat).key)||((ab l ((k:Int)-1).toNat).key==(ab l k).key&&!c8 (ab l ((k:Int)-1).toNat).ax (ab l k).ax))))=!et jP dF l k:=by
 rw[<-Eg];congr 2;generalize ab l ((k:Int)-1).toNat=p;generalize ab l k=q;simp only[dF];rcases Int.lt_trichotomy p.key q.key with h|h|h
 .have h1:¬q.key<p.key:=by omega
  have h2:(p.key==q.key)=false:=by simp;omega
  simp[h,h1,h2]
 .simp[h]
 have h1:¬p.key<q.key:=by omega
 have h2:(p.key==q.key)=false:=by simp;omega
 simp[h,h1,h2]
def qA (l:List aD):
 Fn prog 171 [bV l] (AV.bool (bY l)):=by
 refine Fn.go 36 func171 ntmps171 (λW I a U=>?_);have hle:=U.eh (t:=0) rfl;refine aV λI a w U=>?_;refine cz (λae=>?_) λae=>?_
 .refine bk ?_;exact bI (by simp[bY];omega)
 refine ao λI a w U=>?_;refine St.lo (σ:=Nat) (run 2 2 (run 29 7 [])) ⟨λk=>[(3,AV.int k)],λk=>[],λk=>k<=l.length/\∀i,i<k->(et eD ga l) i=true⟩ (λk=>l.length-k) 0 U ?aH ?bx;case aH=>exact⟨by simp,λi hi=>by omega⟩
 rintro k I a w al U;obtain⟨hk,aU⟩:=al;refine aV λI a w U=>?_;refine cz (λah=>?_) λah=>?_
 .refine zt ?_;refine U.dk ?_;refine dq ?_;refine .o (.c1 (Ax ..)) ?_;refine qz ?_;refine .q .T2 (.cl (Ef ..)) ?_;refine dw ?_;refine .nil ?_;intro I a w U;refine ba ?_;refine U.cd (λaj=>?_) λaj=>?_
  .rw[rE] at aj;replace aj:=nt aj;refine bk ?_;exact bI (by unfold bY;rw[eX (f:=(et eD ga l)) ah aj];simp)
  rw[rE] at aj;replace aj:=nf aj;refine aM λI a w U=>?_;exact U.ag (k+1) (⟨by omega,fO aU aj⟩)
 refine zt ?_;refine bk ?_;exact bI (by unfold bY;rw[eO aU om,Bool.and_true];simp;omega)
def Eh (l:List an):
 Fn prog 172 [bf l] (AV.bool (fD l)):=by
 refine Fn.go 66 func172 ntmps172 (λW I a U=>?_);have hle:=U.eh (t:=0) rfl;refine aV λI a w U=>?_;refine cz (λae=>?_) λae=>?_
 .refine bk ?_;exact bI (by simp[fD];omega)
 refine ao λI a w U=>?_;refine St.lo (σ:=Nat) (run 3 2 (run 58 8 [])) ⟨λk=>[(3,AV.int k)],λk=>[],λk=>k<=l.length/\∀i,i<k->(et jP dF l) i=true⟩ (λk=>l.length-k) 0 U ?aH ?bx;case aH=>exact⟨by simp,λi hi=>by omega⟩
 rintro k I a w al U;obtain⟨hk,aU⟩:=al;refine aV λI a w U=>?_;refine cz (λah=>?_) λah=>?_
 .refine bj λI a w U=>?_;refine U.alloc rfl cx ez λb4 I a w U=>?_;refine ao λI a w U=>?_;obtain⟨I,U⟩:=U.fb 0 4;refine U.dk ?_;refine cg ?_;refine .o (.c1 (rL ..)) ?_;refine dq ?_;refine .q .F (.cl (th ..)) ?_;refine mq ?_;refine mq ?_;refine cg ?_;refine .q .T2 (.cl (tj ..)) ?_;refine eP ?_;refine .nil ?_;intro I a w U;refine ba ?_;refine U.cd (λaj=>?_) λaj=>?_
  .rw[KX] at aj;replace aj:=nt aj;refine bk ?_;exact bI (by unfold fD;rw[eX (f:=(et jP dF l)) ah aj];simp)
  rw[KX] at aj;replace aj:=nf aj;refine aM λI a w U=>?_;have U:=U.drop 0;exact U.ag (k+1) (⟨by omega,fO aU aj⟩)
 refine zt ?_;refine bk ?_;exact bI (by unfold fD;rw[eO aU om,Bool.and_true];simp;omega)
def rM (n:Int):
 Fn prog 297 [AV.int n] (AV.int (gS n)):=by
 refine Fn.go 9 func297 ntmps297 (λW I a U=>?_);refine aF λI a w U=>?_;refine U.o (.c1 (rL ..)) λU=>?_;refine ao λI a w U=>?_;refine cz (λae=>?_) λae=>?_
 .refine bk ?_;exact eW (by simp[gS,ae])
 refine bw λI a w U=>?_;refine U.o (mS .tt .c (λ_=>by simp[cY,aQ] at ae;omega)) λU=>?_;refine U.o (uV .tt .c (λ_=>by simp[cY,aQ] at ae;omega)) λU=>?_;refine bk ?_;exact eW (by simp[gS,ae])
def bB {α:Type} [Inhabited α] {l:List α} {k:Nat} (h:k<l.length):ab l k∈l:=by
 unfold ab;rw[List.getD_eq_getElem?_getD,List.getElem?_eq_getElem h];exact List.getElem_mem _
def di {α:Type} (p:α->Bool) (l:List α):Int:=match l.findIdx? p with
 |some k=>k
 |none=>-1
def lK {α:Type} [Inhabited α] {p:α->Bool} {l:List α} {k:Nat} (hk:k<l.length) (h:∀i,i<k->p (ab l i)=false) (hp:p (ab l k)=true):di p l=k:=by
 have:l.findIdx? p=some k:=by
  rw[List.findIdx?_eq_some_iff_getElem];refine⟨hk,by simpa[ab,hk] using hp,λj hj=>?_⟩;have:=h j hj;have jN:j<l.length:=by omega
  simpa[ab,jN] using this
 unfold di;rw[this]
def kR {α:Type} [Inhabited α] {p:α->Bool} {l:List α} {k:Nat} (hk:l.length<=k) (h:∀i,i<k->p (ab l i)=false):di p l=-1:=by
 have:l.findIdx? p=none:=by
  rw[List.findIdx?_eq_none_iff];intro x hx;obtain⟨i,hi,rfl⟩:=List.getElem_of_mem hx;have:=h i om;simpa[ab,hi] using this
 unfold di;rw[this]
def hasB {α:Type} (p:α->Bool) (l:List α):Bool:=decide (0<=di p l)
def Ei {α:Type} [Inhabited α] {p:α->Bool} {l:List α} (h:0<=di p l):∃k,k<l.length/\p (ab l k)=true:=by
 unfold di at h;split at h
 .rename_i k hk;obtain⟨h1,h2,_⟩:=List.findIdx?_eq_some_iff_getElem.1 hk;exact⟨k,h1,by simpa[ab,h1] using h2⟩
 omega
def Ay {α:Type} [Inhabited α] {p:α->Bool} {l:List α} (h:di p l<0):∀k,k<l.length->p (ab l k)=false:=by
 unfold di at h;split at h
 .omega
 rename_i hn;rw[List.findIdx?_eq_none_iff] at hn;intro k hk;have:=hn (ab l k) (by unfold ab;rw[List.getD_eq_getElem?_getD,List.getElem?_eq_getElem hk];exact List.getElem_mem _);exact this
def lL (d:an) (v:aD):Bool:=decide (v.bG=d)
def placeOf (l:List aD) (d:an):Int:=di (lL d) l
def missing (l:List aD) (d:an):Bool:=decide (placeOf l d<0)
def vy (l:List aD) (ds:List an):Bool:=!hasB (missing l) ds
def eB (s:Server) (key:Int):Int:=(ab s.aN (gS key).toNat).eH
def nS (x:cI):Bool:=aQ x.bU 0 9999&&aQ x.eH 0 2&&!((x.eH !=0)&&(x.bU==0))
def rN (s:Server):Bool:=cQ s.site&&decide (s.aN.length=3)&&bY s.ar&&bY s.waits&&fD s.aE&&fD s.bn&&!(!s.up&&decide (0<s.bn.length))
def py (s:Server) (i:Nat):Bool:=nS (ab s.aN i)
def qB (s:Server) (i:Nat):Bool:=eB s (ab s.ar i).key !=0
def qC (s:Server) (v:aD):Bool:=(eB s v.key !=0)&&(ct v.ax.site !=ct s.site)&&decide (placeOf s.ar v.bG<0)
def pz (s:Server) (i:Nat):Bool:=qC s (ab s.waits i)
def gL (s:Server):Bool:=rN s&&cT s.aN.length (py s)&&cT s.ar.length (qB s)&&cT s.waits.length (pz s)&&vy s.ar s.aE
def Az (s:Server):(!cQ s.site||((s.aN.length:Int) !=3)||!bY s.ar||!bY s.waits||!fD s.aE||!fD s.bn||(!s.up&&decide (0<(s.bn.length:Int))))=!rN s:=by
 have e:((s.aN.length:Int) !=3)=!decide (s.aN.length=3):=by rw[Bool.eq_iff_iff];simp;omega
 have e2:decide (0<(s.bn.length:Int))=decide (0<s.bn.length):=by rw[Bool.eq_iff_iff];simp
 rw[e,e2];simp[rN]
def Ej (x:cI):(!aQ x.bU 0 9999||!aQ x.eH 0 2||((x.eH !=0)&&(x.bU==0)))=!nS x:=by simp[nS]
def rO {l:List aD} (h:bY l=true) {k:Nat} (hk:k<l.length):eD (ab l k)=true:=by
 unfold bY at h;rw[Bool.and_eq_true,iR] at h;have:=h.2 k hk;unfold et at this;rw[Bool.and_eq_true] at this;exact this.1
def nT {v:aD} (h:eD v=true):cY v.key=true:=by
 simp only[eD,Bool.and_eq_true] at h;exact h.1.1.1.1.1.1
def Ek {s:Server} (h:rN s=true):s.aN.length=3/\bY s.ar=true/\bY s.waits=true/\fD s.aE=true/\fD s.bn=true/\cQ s.site=true:=by
 simp only[rN,Bool.and_eq_true,decide_eq_true_eq] at h;exact⟨h.1.1.1.1.1.2,h.1.1.1.1.2,h.1.1.1.2,h.1.1.2,h.1.2,h.1.1.1.1.1.1⟩
def nU {n:Int} (h:cY n=true):0<=gS n/\gS n<3:=by
 unfold gS;simp only[h,if_true];simp[cY,aQ] at h;omega
def Up (s:Server) (key:Int) (hk:cY key=true) (hl:s.aN.length=3):
 Fn prog 252 [s.av,AV.int key] (AV.bool (eB s key !=0)):=by
 refine Fn.go 13 func252 ntmps252 (λW I a U=>?_);have hr:=nU hk;refine aq λI a w U=>?_;refine U.dk ?_;refine dw ?_;refine .o (.c1 (rM ..)) ?_;refine eP ?_;refine .nil ?_;intro I a w U;refine zt ?_;refine U.rt ?_;rfl
def fR:List an->an->List an
 |[],d=>[d]
 |e::r,d=>if e.key=d.key then(if c8 e.ax d.ax then d else e)::r else if d.key<e.key then d::e::r else e::fR r d
def gU (d:an):Bool:=cY d.key&&c7 d.ax
def El:∀{l:List an} {last:Int},dm last l=true->∀d∈l,last<d.key/\d.key<=5/\c7 d.ax=true
 |[],_,_,d,hd=>by simp at hd
 |e::r,last,h,d,hd=>by
  simp only[dm,Bool.and_eq_true,aQ,decide_eq_true_eq] at h;rcases List.mem_cons.1 hd with rfl|hd
  .exact⟨by omega,h.1.1.2,h.1.2⟩
  have:=El h.2 d hd;exact⟨by omega,this.2⟩
def iz {α:Type} [Inhabited α] {l:List α} {x:α} (h:x∈l):∃k,k<l.length/\ab l k=x:=by
 obtain⟨k,hk,rfl⟩:=List.getElem_of_mem h;exact⟨k,hk,by simp[ab,hk]⟩
def nV {l:List an} (h:bP l=true) {d:an} (hd:d∈l):gU d=true:=by
 have:=El h d hd;simp[gU,cY,aQ,this.2.2];omega
def KY:∀{l:List an} {last:Int},dm last l=true->∀{i j:Nat},i<j->j<l.length->(ab l i).key<(ab l j).key
 |[],_,_,i,j,_,hj=>by simp at hj
 |e::r,last,h,0,j+1,_,hj=>by
  simp only[dm,Bool.and_eq_true] at h;have Dm:j<r.length:=by simpa using hj
  exact(El h.2 _ (bB Dm)).1
 |e::r,last,h,i+1,j+1,jE,hj=>by
  simp only[dm,Bool.and_eq_true] at h;exact KY h.2 (i:=i) (j:=j) om (by simpa using hj)
def KZ:∀(l:List an) (last:Int),dm last l=true->last<=5->(l.length:Int)<=5-last
 |[],last,_,h=>by simp;omega
 |d::r,last,h,hl=>by
  simp only[dm,Bool.and_eq_true,aQ,decide_eq_true_eq] at h;have:=KZ r d.key h.2 om;simp;omega
def dY {l:List an} (h:bP l=true):l.length<=6:=by
 have:=KZ l (-1) h om;omega
def xJ {l:List an} (h:bP l=true) {i j:Nat} (jE:i<j) (hj:j<l.length):(ab l i).key<(ab l j).key:=KY h jE hj
structure iV (l:List an) (d:an) (k:Nat) (done:Bool) (out:List an):Prop where
 hk:k<=l.length
 eq:fR l d=if done then out++l.drop k else out++fR (l.drop k) d
 late:done=true->∀i,k<=i->i<l.length->d.key<(ab l i).key
 len:out.length<=k+done.toNat
def iV.zero (l:List an) (d:an):iV l d 0 false []:=⟨Nat.zero_le _,by simp,(λh=>by cases h),by simp⟩
section
variable {l:List an} {d:an} {k:Nat} {out:List an} {done:Bool}
def iV.same (hp:iV l d k done out) (hl:bP l=true) (h:k<l.length) (he:(ab l k).key=d.key):done=false/\iV l d (k+1) true (out++[if c8 (ab l k).ax d.ax then d else ab l k]):=by
 have hd:done=false:=by
  cases done
  .rfl
  have:=hp.late rfl k (Nat.le_refl _) h;omega
 subst hd;refine⟨rfl,h,?_,λ_ i hi iG=>?_,by have:=hp.len;simp at this⊢;omega⟩
 .have:=hp.eq;rw[j0 h] at this;simp only[fR,if_pos he] at this;rw[this];simp
 rw[<-he];exact xJ hl om iG
def iV.before (hp:iV l d k false out) (hl:bP l=true) (h:k<l.length) (he:d.key<(ab l k).key):iV l d (k+1) true ((out++[d])++[ab l k]):=by
 refine⟨h,?_,λ_ i hi iG=>?_,by have:=hp.len;simp at this⊢;omega⟩
 .have:=hp.eq;rw[j0 h] at this;simp only[fR,if_neg (show¬(ab l k).key=d.key by omega),if_pos he] at this;rw[this];simp
 have:=xJ hl (i:=k) (j:=i) om iG;omega
def iV.step (hp:iV l d k done out) (h:k<l.length) (he:(ab l k).key≠d.key) (hn:done=false->(ab l k).key<=d.key):iV l d (k+1) done (out++[ab l k]):=by
 refine⟨h,?_,λhd i hi iG=>hp.late hd i om iG,by have:=hp.len;simp;omega⟩;have:=hp.eq;cases done
 .rw[j0 h] at this;have:=hn rfl;simp_all only[fR];simp;omega
 simp only[if_true] at this⊢;rw[this,j0 h];simp
def iV.nW (hp:iV l d k true out) (h:l.length<=k):out=fR l d:=by
 have:=hp.eq;rw[List.drop_eq_nil_of_le h] at this;simpa using this.symm
def iV.nX (hp:iV l d k false out) (h:l.length<=k):out++[d]=fR l d:=by
 have:=hp.eq;rw[List.drop_eq_nil_of_le h] at this;simpa[fR] using this.symm
end
def mw (a b:Int):Bool:=decide (a<b)
def jK (l:List Int):Bool:=cT l.length (et cY mw l)
def ie (c:Call):Bool:=jK c.keys&&((c.kind==1&&((c.keys.length:Int)==1))||(c.kind==2&&aQ c.keys.length 1 3))
def rP:aD:=⟨0,⟨0,0⟩,0,0,0,[]⟩
def pB (v u:aD):Bool:=decide (v=u)
def my (a:Answer) (s:cA):Bool:=!a.yes||c8 a.bF.ax s
def qD (key:Int) (a:Answer):Bool:=a.key==key
def cE (c:Call) (key:Int):Int:=di (qD key) c.az
def rQ (key:Int) (n:Int):Bool:=n==key
def gz (l:List Int) (key:Int):Bool:=hasB (rQ key) l
def dH (a:Answer):Bool:=if a.yes then eD a.bF&&(a.bF.key==a.key) else pB a.bF rP
def fS (a b:Answer):Bool:=decide (a.key<b.key)
def m8 (c:Call) (i:Nat):Bool:=et (λa=>gz c.keys a.key) fS c.az i&&dH (ab c.az i)
def nY (c:Call) (i:Nat):Bool:=decide (0<=cE c (ab c.aL i).key)&&my (ab c.az (cE c (ab c.aL i).key).toNat) (ab c.aL i).ax
def na (c:Call):Bool:=(c.az.length:Int)==c.keys.length
def lM (c:Call):Bool:=cT c.az.length (m8 c)
def nb (c:Call):Bool:=lM c&&cT c.aL.length (nY c)&&(((c.aL.length:Int)==0)||na c)
def ko (c:Call) (time:Int):Bool:=eN c.aA&&aQ c.num 1 99&&ie c&&aQ c.val 0 9999&&bP c.ctx&&bP c.aL&&aQ c.bq 1 time&&jO c.ax&&nb c
def vz (c:Call):Bool:=!((c.kind==1&&decide (0<(c.az.length:Int)+c.aL.length))||(!(c.kind==1)&&((c.val !=0)||!dW c.ax)))
def mz (c:Call) (time:Int):Bool:=if c.end_=0 then dW c.ax else !(c.over||!aQ c.end_ (c.bq+1) time||decide (0<(c.aL.length:Int)))&&((c.kind==1&&!dW c.ax)||(!(c.kind==1)&&na c))
def eY (c:Call) (time:Int):Bool:=ko c time&&vz c&&mz c time
def Em {α:Type} [Inhabited α] {p:α->Bool} {l:List α} (h:hasB p l=true):∃x∈l,p x=true:=by
 simp only[hasB,decide_eq_true_eq] at h;obtain⟨k,hk,hp⟩:=Ei h;exact⟨_,bB hk,hp⟩
def AA {α:Type} [Inhabited α] {p:α->Bool} {l:List α} {x:α} (h:x∈l) (hp:p x=true):hasB p l=true:=by
 simp only[hasB,decide_eq_true_eq];rcases Int.lt_or_le (di p l) 0 with hn|hn
 .obtain⟨k,hk,rfl⟩:=iz h;rw[Ay hn k hk] at hp;cases hp
 exact hn
def K0 (n:Nat):decide (0<(n:Int))=!decide (n=0):=by
 rw[Bool.eq_iff_iff];simp;omega
def K1 (n m:Nat):decide (0<(n:Int)+m)=!(decide (n=0)&&decide (m=0)):=by
 rw[Bool.eq_iff_iff];simp;omega
def kq (d k:Call):Bool:=(d.aA==k.aA)&&!d.over&&((d.end_==0)||decide (k.bq<=d.end_))
def fT (l:List Call) (k:Nat) (x:Int):Int:=(((l.take k).filter λd=>d.aA==x).length:Nat)
def vA (l:List Call) (time:Int) (i:Nat):Bool:=eY (ab l i) time&&(decide (i=0)||decide ((ab l (i-1)).bq<(ab l i).bq))
def kS (l:List Call) (time:Int) (i:Nat):Bool:=(vA l time i&&((ab l i).num==fT l (i+1) (ab l i).aA))&&cT i λj=>!kq (ab l j) (ab l i)
def iI (l:List Call) (time:Int):Bool:=cT l.length (kS l time)&&decide (l.length<=20)
def jL {v:aD} (h:eD v=true):cY v.key=true/\c7 v.ax=true/\bP v.aS=true:=by
 simp only[eD,Bool.and_eq_true] at h;exact⟨h.1.1.1.1.1.1,h.1.1.1.1.1.2,h.1.2⟩
def K2:∀(l:List an) (last:Int),dm last l=true->last<=5->(l.length:Int)<=5-last
 |[],last,_,h=>by simp;omega
 |d::r,last,h,hl=>by
  simp only[dm,Bool.and_eq_true,aQ,decide_eq_true_eq] at h;have:=K2 r d.key h.2 om;simp;omega
def Uq {l:List an} (h:bP l=true):l.length<=6:=by
 have:=K2 l (-1) h om;omega
def Ur {v:aD} (h:eD v=true):v.aS.length<=6:=by
 simp only[eD,Bool.and_eq_true] at h;exact Uq h.1.2
def jk (l:List aD) (d:an):Option aD:=if bY l=true/\0<=placeOf l d then some (ab l (placeOf l d).toNat) else none
def K3 (key:Int) (st:cA) (v:aD):((v.key==key)&&([v.ax.time,v.ax.site]==[st.time,st.site]))=lL ⟨key,st⟩ v:=by
 obtain⟨t,s⟩:=st;obtain⟨vk,⟨vt,vs⟩,_,_,_,_⟩:=v;rw[Bool.eq_iff_iff];simp[lL,aD.bG]
def Us {l:List aD} {d:an} {k:Nat} (hc:bY l=true) (hk:k<l.length) (h:∀i,i<k->lL d (ab l i)=false) (hp:lL d (ab l k)=true):jk l d=some (ab l k):=by
 have e:placeOf l d=k:=lK hk h hp;unfold jk;rw[e,if_pos ⟨hc,by omega⟩];rfl
def Ut {l:List aD} {d:an} {k:Nat} (hk:l.length<=k) (h:∀i,i<k->lL d (ab l i)=false):jk l d=none:=by
 have e:placeOf l d=-1:=kR hk h;unfold jk;rw[e,if_neg om]
def Uu {l:List aD} {d:an} (h:bY l=false):jk l d=none:=by
 unfold jk;rw[if_neg (by rw[h];simp)]
def vB {l:List aD} {d:an} (hc:bY l=true):(jk l d).isSome=decide (0<=placeOf l d):=by
 unfold jk;by_cases h:0<=placeOf l d
 .rw[if_pos ⟨hc,h⟩];simp[h]
 rw[if_neg (by simp[h])];simp[h]
def j4 (v:aD) (h:v.aS.length<=1048576):
 Fn prog 198 [v.av] (v.av):=by
 refine Fn.go 9 func198 ntmps198 (λW I a U=>?_);refine sr<|U.box rfl .tt λb1 I a w U=>U.alloc rfl bL dy λb2 I a w U=>?_;refine zt ?_;refine U.l0 λb3 I a w U=>?_;refine aF λI a w U=>?_;refine U.ap 2 λv6 a w U=>?_;obtain⟨I,U⟩:=U.fr 2 6;refine aV λI a w U=>?_;refine U.ret rfl (.cons (.sx 1) aX.nil) ?_;rfl
def pC (l:List aD) (key:Int) (st:cA):
 Fn prog 174 [bV l,AV.int key,st.av] (AV.c6 [((jk l ⟨key,st⟩).getD default).av,AV.bool (jk l ⟨key,st⟩).isSome]):=by
 refine Fn.go 41 func174 ntmps174 (λW I a U=>?_);have hle:=U.eh (t:=0) rfl;refine bw λI a w U=>?_;refine U.alloc rfl bL dy λb6 I a w U=>?_;refine aF λI a w U=>?_;refine U.o (.cl (qA ..)) λU=>?_;refine ao λI a w U=>?_;refine U.cd (λae=>?_) λae=>?_
 .replace ae:=nt ae;refine zt ?_;refine U.o (.bd dy aT.nil) λU=>?_;refine aq λI a w U=>?_;refine U.ret rfl (.cons (.sx 0) (.cons (.t rfl) aX.nil)) ?_;exact(by rw[Uu ae];rfl)
 replace ae:=nf ae;refine ao λI a w U=>?_;refine St.lo (σ:=Nat) (run 2 7 (run 27 13 [])) ⟨λk=>[(8,AV.int k)],λk=>[Own.box b6 54 [AV.val (.int .i64 0),AV.val (.int .i64 0),AV.val (.int .i64 0),AV.val (.int .i64 0),AV.val (.int .i64 0),AV.val (.int .i64 0),AV.rows 3 []]],λk=>k<=l.length/\∀i,i<k->lL ⟨key,st⟩ (ab l i)=false⟩ (λk=>l.length-k) 0 U ?aH ?bx;case aH=>exact⟨Nat.zero_le _,λi hi=>by omega⟩
 rintro k I a w al U;obtain⟨hk,aU⟩:=al;refine aV λI a w U=>?_;refine cz (λah=>?_) λah=>?_
 .refine zt ?_;refine U.dk ?_;refine qz ?_;refine .q .T (lF [_,_] [_,_] mu rfl rfl .ag .ag) ?_;refine aW ?_;refine .nil ?_;intro I a w U;refine ba ?_;refine U.cd (λaj=>?_) λaj=>?_
  .rw[K3] at aj;refine bj λI a w U=>?_;refine U.o (cq (j4 _ (by have:=Ur (rO ae ah);omega)) (ai (.t rfl) aB)) λU=>?_;refine aq λI a w U=>?_;refine U.ret rfl (.cons (.sx 0) (.cons (.t rfl) aX.nil)) ?_;exact(by rw[Us ae ah aU aj];rfl)
  rw[K3] at aj;refine aM λI a w U=>?_;exact U.ag (k+1) (⟨ah,λi h1=>by rcases Nat.lt_succ_iff_lt_or_eq.1 h1 with h|h;exact aU i h;rw[h];exact aj⟩)
 refine zt ?_;refine U.o (.bd dy aT.nil) λU=>?_;refine aq λI a w U=>?_;refine U.ret rfl (.cons (.sx 0) (.cons (.t rfl) aX.nil)) ?_;exact(by rw[Ut om aU];rfl)
def mA (s:Server) (l:List aD) (i:Nat):Bool:=eB s (ab l i).key !=0
def tk (s:Server) (i:Nat):Bool:=!((decide (0<=placeOf s.ar (ab s.waits i).bG))||(ct (ab s.waits i).ax.site==ct s.site))
def pD (s:Server) (i:Nat):Bool:=decide (0<=placeOf s.ar (ab s.aE i))
def K4 (x:cI):(!aQ x.bU 0 9999||!aQ x.eH 0 2||((x.eH !=0)&&decide (x.bU<1)))=!nS x:=by
 rw[<-Ej];by_cases h:aQ x.bU 0 9999=true
 .have e:decide (x.bU<1)=(x.bU==0):=by
   simp[aQ] at h;rw[Bool.eq_iff_iff];simp;omega
  rw[e]
 simp[h]
def Uv (s:Server) (i:Nat):pz s i=(mA s s.waits i&&tk s i):=by
 unfold pz qC mA tk;have e:decide (placeOf s.ar (ab s.waits i).bG<0)=!decide (0<=placeOf s.ar (ab s.waits i).bG):=by rw[Bool.eq_iff_iff];simp
 rw[e];cases(eB s (ab s.waits i).key !=0)<;>cases decide (0<=placeOf s.ar (ab s.waits i).bG)<;>simp[bne]
def Uw {n:Nat} {f g:Nat->Bool}:cT n (λi=>f i&&g i)=(cT n f&&cT n g):=by
 rw[Bool.eq_iff_iff,Bool.and_eq_true,iR,iR,iR];exact⟨λh=>⟨λi hi=>(Bool.and_eq_true_iff.1 (h i hi)).1,λi hi=>(Bool.and_eq_true_iff.1 (h i hi)).2⟩,λh i hi=>Bool.and_eq_true_iff.2 ⟨h.1 i hi,h.2 i hi⟩⟩
def Ux (s:Server):vy s.ar s.aE=cT s.aE.length (pD s):=by
 unfold vy hasB;by_cases h:0<=di (missing s.ar) s.aE
 .obtain⟨k,hk,hm⟩:=Ei h;have:pD s k=false:=by
   simp only[missing,decide_eq_true_eq] at hm;simp only[pD,decide_eq_false_iff_not];omega
  rw[eX hk this];simp[h]
 have aU:=Ay (p:=missing s.ar) (l:=s.aE) om;have:cT s.aE.length (pD s)=true:=by
  rw[iR];intro i hi;have:=aU i hi;simp only[missing,decide_eq_false_iff_not] at this;simp only[pD,decide_eq_true_eq];omega
 rw[this];simp[h]
def xK (s:Server):gL s=(rN s&&cT s.aN.length (py s)&&(cT s.ar.length (mA s s.ar)&&cT s.waits.length (mA s s.waits))&&cT s.waits.length (tk s)&&cT s.aE.length (pD s)):=by
 unfold gL;have e:cT s.waits.length (pz s)=(cT s.waits.length (mA s s.waits)&&cT s.waits.length (tk s)):=by
  rw[<-Uw];exact xj rfl λi _=>Uv s i
 have e2:cT s.ar.length (qB s)=cT s.ar.length (mA s s.ar):=rfl;rw[e,e2,Ux];cases rN s<;>cases cT s.aN.length (py s)<;>cases cT s.ar.length (mA s s.ar)<;>cases cT s.waits.length (mA s s.waits)<;>simp
def K5 (s:Server) (i:Nat) (hc:bY s.ar=true):((jk s.ar ⟨(ab s.waits i).key,(ab s.waits i).ax⟩).isSome||(ct (ab s.waits i).ax.site==ct s.site))=!tk s i:=by
 rw[vB hc];show _=!!(_||_);rw[Bool.not_not];rfl
def K6 (s:Server) (i:Nat) (hc:bY s.ar=true):(!(jk s.ar ⟨(ab s.aE i).key,(ab s.aE i).ax⟩).isSome)=!pD s i:=by
 rw[vB hc];simp[pD]
def K7 (s:Server) (l:List aD) (hl:s.aN.length=3) (hc:bY l=true):
 Fn prog 173 [s.av,bV l] (AV.bool (cT l.length (mA s l))):=by
 refine Fn.go 20 func173 ntmps173 (λW I a U=>?_);have hle:=U.eh (t:=1) rfl;refine aM λI a w U=>?_;refine St.lo (σ:=Nat) (run 16 4 []) ⟨λk=>[(5,AV.int k)],λk=>[],λk=>k<=l.length/\∀i,i<k->(mA s l) i=true⟩ (λk=>l.length-k) 0 U ?aH ?bx;case aH=>exact⟨Nat.zero_le _,λi hi=>by omega⟩
 rintro k I a w al U;obtain⟨pE,aU⟩:=al;refine aV λI a w U=>?_;refine cz (λae=>?_) λae=>?_
 .refine zt ?_;refine U.dk ?_;refine gw ?_;refine .o (.c2 (Up _ _ (nT (rO hc ae)) hl)) ?_;refine aW ?_;refine .nil ?_;intro I a w U;refine ba ?_;refine U.cd (λah=>?_) λah=>?_
  .replace ah:=nt ah;refine bk ?_;exact bI (eX (f:=mA s l) ae ah).symm
  replace ah:=nf ah;refine aM λI a w U=>?_;exact U.ag (k+1) (⟨by omega,fO aU ah⟩)
 refine zt ?_;refine bk ?_;exact bI (eO aU om).symm
def rR (s:Server):
 Fn prog 88 [s.av] (AV.bool (gL s)):=by
 refine Fn.go 177 func88 ntmps88 (λW I a U=>?_);have lens:s.aN.length<=9223372036854775807/\s.ar.length<=9223372036854775807/\s.waits.length<=9223372036854775807/\s.aE.length<=9223372036854775807:=⟨U.ln 0 2,U.ln 0 3,U.ln 0 4,U.ln 0 5⟩;refine bj λI a w U=>?_;refine U.o (.c1 (px ..)) λU=>?_;refine rI λI a w U=>?_;refine U.q .F (.cl (qA ..)) λU=>?_;refine bK λI a w U=>?_;refine U.q .F (.cl (qA ..)) λU=>?_;refine bK λI a w U=>?_;refine U.q .F (.cl (Eh ..)) λU=>?_;refine bK λI a w U=>?_;refine U.q .F (.cl (Eh ..)) λU=>?_;refine Ad λI a w U=>?_;refine U.cd (λae=>?_) λae=>?_
 .rw[Az] at ae;replace ae:=nt ae;refine bk ?_;exact bI (by unfold gL;rw[ae];rfl)
 rw[Az] at ae;replace ae:=nf ae;obtain⟨xL,tl,En,Uy,Uz,Eo⟩:=Ek ae;refine ao λI a w U=>?_;refine St.lo (σ:=Nat) (run 2 2 (run 43 55 [])) ⟨λk1=>[(3,AV.int k1)],λk1=>[],λk1=>k1<=s.aN.length/\∀i,i<k1->(py s) i=true⟩ (λk1=>s.aN.length-k1) 0 U ?aH ?bx;case aH=>exact⟨Nat.zero_le _,λi hi=>by omega⟩
 rintro k1 I a w al U;obtain⟨UA,tm⟩:=al;refine cn λI a w U=>?_;refine cz (λah=>?_) λah=>?_
 .refine dp λI a w U=>?_;refine U.o (.cl (ic ..)) λU=>?_;refine j3 λI a w U=>?_;refine U.q .F (.cl (ic ..)) λU=>?_;refine D3 λI a w U=>?_;refine U.cd (λaj=>?_) λaj=>?_
  .rw[K4] at aj;replace aj:=nt aj;refine bk ?_;exact bI (by rw[xK,ae,eX (f:=py s) ah aj];simp)
  rw[K4] at aj;replace aj:=nf aj;refine aM λI a w U=>?_;exact U.ag (k1+1) (⟨by omega,fO tm aj⟩)
 refine zt ?_;refine bc λI a w U=>?_;refine U.o (.cl (K7 _ _ xL tl)) λU=>?_;refine bK λI a w U=>?_;refine U.q .F (.cl (K7 _ _ xL En)) λU=>?_;refine aq λI a w U=>?_;refine U.cd (λaG=>?_) λaG=>?_
 .refine bk ?_;exact bI (by rw[xK,ae];revert aG;cases cT s.ar.length (mA s s.ar)<;>cases cT s.waits.length (mA s s.waits)<;>simp)
 rw[Bool.or_eq_false_iff] at aG;obtain⟨Ep,Er⟩:=aG;replace Ep:=nf Ep;replace Er:=nf Er;refine ao λI a w U=>?_;refine St.lo (σ:=Nat) (2::(run 3 4 (run 40 110 []))) ⟨λk2=>[(4,AV.int k2)],λk2=>[],λk2=>k2<=s.waits.length/\∀i,i<k2->(tk s) i=true⟩ (λk2=>s.waits.length-k2) 0 U ?dC ?iJ;case dC=>exact⟨Nat.zero_le _,λi hi=>by omega⟩
 rintro k2 I a w al U;obtain⟨vC,iK⟩:=al;refine cn λI a w U=>?_;refine cz (λaK=>?_) λaK=>?_
 .refine zt ?_;have U:=U.fP;refine U.db [([],none),([],none),([],none),([],none),([],none),([],none),([],none),([],none),([],none),([],none),([],none),([],none),([],none),([],none),([],none),([],none),([],none),([],none),([0],some (0,[5])),([0],some (0,[5])),([],none)] aP aP rfl ?_;refine qz ?_;refine .o (.cl (pC ..)) ?_;refine dw ?_;refine aI.alloc 0 rfl rfl bL dy<|aI.pk 0 rfl bL rfl .tt rfl rfl ?_;refine aW ?_;refine .nil ?_;intro I a w U;obtain⟨b5,U⟩:=U.lI (d:=5) 0 rfl rfl;obtain⟨I,U⟩:=U.fb 0 5;refine ba<|wp_seq<|U.dk ?_;refine vi ?_;refine .q .F (.cl (nR ..)) ?_;refine cg ?_;refine .q .F (.cl (nR ..)) ?_;refine cg ?_;refine .nil ?_;intro I a w U;refine ba ?_;refine U.cd (λbh=>?_) λbh=>?_
  .rw[K5 s _ tl] at bh;replace bh:=nt bh;refine bk ?_;exact bI (by rw[xK,ae,eX (f:=tk s) aK bh];simp)
  rw[K5 s _ tl] at bh;replace bh:=nf bh;refine aM λI a w U=>?_;have U:=U.drop 0;exact U.ag (k2+1) (⟨by omega,fO iK bh⟩)
 refine zt ?_;refine ao λI a w U=>?_;refine St.lo (σ:=Nat) (2::(run 3 7 (run 27 150 []))) ⟨λk3=>[(7,AV.int k3)],λk3=>[],λk3=>k3<=s.aE.length/\∀i,i<k3->(pD s) i=true⟩ (λk3=>s.aE.length-k3) 0 U ?fU ?kT;case fU=>exact⟨Nat.zero_le _,λi hi=>by omega⟩
 rintro k3 I a w al U;obtain⟨K8,rS⟩:=al;refine cn λI a w U=>?_;refine cz (λaZ=>?_) λaZ=>?_
 .refine zt ?_;have U:=U.fP;refine U.db [([],none),([],none),([],none),([],none),([],none),([],none),([],none),([],none),([],none),([],none),([],none),([],none),([],none),([],none),([],none),([],none),([],none),([],none),([0],some (0,[8])),([0],some (0,[8])),([],none)] aP aP rfl ?_;refine qz ?_;refine .o (.cl (pC ..)) ?_;refine dw ?_;refine aI.alloc 0 rfl rfl bL dy<|aI.pk 0 rfl bL rfl .tt rfl rfl ?_;refine aW ?_;refine .nil ?_;intro I a w U;obtain⟨b8,U⟩:=U.lI (d:=8) 0 rfl rfl;obtain⟨I,U⟩:=U.fb 0 8;refine aq λI a w U=>?_;refine U.cd (λbT=>?_) λbT=>?_
  .rw[K6 s _ tl] at bT;replace bT:=nt bT;refine bk ?_;exact bI (by rw[xK,ae,eX (f:=pD s) aZ bT];simp)
  rw[K6 s _ tl] at bT;replace bT:=nf bT;refine aM λI a w U=>?_;have U:=U.drop 0;exact U.ag (k3+1) (⟨by omega,fO rS bT⟩)
 refine zt ?_;refine bk ?_;exact bI (by rw[xK,ae,eO tm om,Ep,Er,eO iK om,eO rS om];rfl)
def ej:List aD->aD->List aD
 |[],v=>[v]
 |x::r,v=>if ga x v then x::ej r v else v::x::r
def nc:List aD->aD->List aD
 |[],v=>[v]
 |x::r,v=>if ga v x then v::x::r else x::nc r v
def AB {a b:an} (h:dF a b=false) (h':dF b a=false):a=b:=by
 obtain⟨k,⟨t,s⟩⟩:=a;obtain⟨k',⟨t',s'⟩⟩:=b;simp[dF,c8] at h h';simp;omega
def UB {a b:an} (h:dF a b=true):dF b a=false:=by
 obtain⟨k,⟨t,s⟩⟩:=a;obtain⟨k',⟨t',s'⟩⟩:=b;simp[dF,c8] at h⊢;omega
def AD (a:an):dF a a=false:=by simp[dF,c8]
def xM {a b d:an} (h:dF a b=true) (h':dF b d=true):dF a d=true:=by
 obtain⟨k,⟨t,s⟩⟩:=a;obtain⟨k',⟨t',s'⟩⟩:=b;obtain⟨k2,⟨t2,s2⟩⟩:=d;simp[dF,c8] at h h'⊢;omega
def VS (l:List aD):Prop:=l.Pairwise λa b=>ga a b=true
def Es:∀{l:List aD} {v:aD},(∀x∈l,x.bG≠v.bG)->nc l v=ej l v
 |[],_,_=>rfl
 |x::r,v,h=>by
  have hx:=h x bt;have ih:=Es (l:=r) (v:=v) λy hy=>h y (by simp[hy]);unfold ej nc;cases h1:ga v x
  .cases h2:ga x v
   .exact absurd (AB h2 h1) hx
   simp[ih]
  rw[show ga x v=false from UB h1];simp
def lN:∀{l:List aD} {v x:aD},x∈ej l v↔x=v\/x∈l
 |[],v,x=>by simp[ej]
 |y::r,v,x=>by
  unfold ej;split
  .rw[List.mem_cons,lN (l:=r),List.mem_cons];constructor
   .rintro(h|h|h)<;>simp[h]
   rintro(h|h|h)<;>simp[h]
  rw[List.mem_cons]
def K9 (l:List aD) (v:aD):(ej l v).length=l.length+1:=by
 induction l with
 |nil=>rfl
 |cons x r ih=>unfold ej;split<;>simp[ih]
def La:∀{l:List aD} {v:aD},VS l->(∀x∈l,x.bG≠v.bG)->VS (ej l v)
 |[],v,_,_=>by simp[ej,VS]
 |x::r,v,h,hd=>by
  unfold VS at h;rw[List.pairwise_cons] at h;unfold ej;split
  .rename_i cj;unfold VS;rw[List.pairwise_cons];refine⟨λy hy=>?_,La h.2 λy hy=>hd y (by simp[hy])⟩;rcases lN.1 hy with rfl|hy
   .exact cj
   exact h.1 y hy
  rename_i cj;have h1:ga v x=true:=by
   cases h1:ga v x
   .simp only[Bool.not_eq_true] at cj;exact absurd (AB cj h1) (hd x bt)
   rfl
  unfold VS;rw[List.pairwise_cons,List.pairwise_cons];refine⟨λy hy=>?_,h.1,h.2⟩;rcases List.mem_cons.1 hy with rfl|hy
  .exact h1
  exact xM h1 (h.1 y hy)
def nZ {l:List aD} {d:an} (h:placeOf l d<0):∀x∈l,x.bG≠d:=λx hx he=>by
 obtain⟨k,hk,rfl⟩:=iz hx;have:=Ay h k hk;simp[lL] at this;exact this he
def AE {l:List aD} {d:an} (h:∀x∈l,x.bG≠d):placeOf l d<0:=by
 rcases Int.lt_or_le (placeOf l d) 0 with hn|hn
 .exact hn
 obtain⟨k,hk,hp⟩:=Ei hn;simp[lL] at hp;exact absurd hp (h _ (bB hk))
def xN {l:List aD} {d:an} (h:0<=placeOf l d):(placeOf l d).toNat<l.length/\(ab l (placeOf l d).toNat).bG=d:=by
 unfold placeOf di at*;split at h
 .rename_i k hk;obtain⟨h1,h2,_⟩:=List.findIdx?_eq_some_iff_getElem.1 hk;refine⟨by simpa using h1,?_⟩;simp only[Int.toNat_natCast];simpa[ab,h1,lL] using h2
 omega
def UC {α:Type} [Inhabited α] {R:α->α->Prop} (tr:∀{a b d},R a b->R b d->R a d) {l:List α} (h:∀i,0<i->i<l.length->R (ab l (i-1)) (ab l i)):l.Pairwise R:=by
 rw[List.pairwise_iff_getElem];intro i j hi hj jE;have e:∀k (hk:k<l.length),l[k]=ab l k:=λk hk=>by simp[ab,hk]
 rw[e i hi,e j hj];obtain⟨n,rfl⟩:∃n,j=i+1+n:=⟨j-(i+1),by omega⟩;clear jE;induction n with
 |zero=>have:=h (i+1) om hj;simpa using this
 |succ n ih=>
  have h1:=ih om
  have h2:=h (i+1+(n+1)) om hj
  rw[show i+1+(n+1)-1=i+1+n from by omega] at h2
  exact tr h1 h2
def gP {l:List aD} (h:bY l=true):∀x∈l,eD x=true:=λx hx=>by
 obtain⟨k,hk,rfl⟩:=iz hx;exact rO h hk
def fV {l:List aD} (h:bY l=true):l.length<=80:=by
 unfold bY at h;rw[Bool.and_eq_true,decide_eq_true_eq] at h;exact h.1
structure jS (l:List aD) (v:aD) (k:Nat) (done:Bool) (out:List aD):Prop where
 hk:k<=l.length
 eq:nc l v=if done then out++l.drop k else out++nc (l.drop k) v
 len:out.length<=k+done.toNat
def jS.zero (l:List aD) (v:aD):jS l v 0 false []:=⟨Nat.zero_le _,by simp,by simp⟩
section
variable {l:List aD} {v:aD} {k:Nat} {out:List aD} {done:Bool}
def jS.before (hp:jS l v k false out) (h:k<l.length) (he:ga v (ab l k)=true):jS l v (k+1) true ((out++[v])++[ab l k]):=by
 refine⟨h,?_,by have:=hp.len;simp at this⊢;omega⟩;have:=hp.eq;rw[j0 h] at this;simp only[nc,if_pos he] at this;rw[this];simp
def jS.step (hp:jS l v k done out) (h:k<l.length) (he:done=true\/ga v (ab l k)=false):jS l v (k+1) done (out++[ab l k]):=by
 refine⟨h,?_,by have:=hp.len;simp;omega⟩;have:=hp.eq;cases done
 .rw[j0 h] at this;have he:ga v (ab l k)=false:=he.resolve_left bt;simp only[nc,he] at this;rw[this];simp
 simp only[if_true] at this⊢;rw[this,j0 h];simp
def jS.nW (hp:jS l v k true out) (h:l.length<=k):out=nc l v:=by
 have:=hp.eq;rw[List.drop_eq_nil_of_le h] at this;simpa using this.symm
def jS.nX (hp:jS l v k false out) (h:l.length<=k):out++[v]=nc l v:=by
 have:=hp.eq;rw[List.drop_eq_nil_of_le h] at this;simpa[nc] using this.symm
end
def mB (l:List cA):Int:=l.foldl (λt s=>if t<s.time then s.time else t) 0
def Et:∀{l:List cA} {t:Int},0<=t->t<=9999->(∀s∈l,c7 s=true)->0<=l.foldl (λt s=>if t<s.time then s.time else t) t/\l.foldl (λt s=>if t<s.time then s.time else t) t<=9999
 |[],t,h0,h1,_=>⟨h0,h1⟩
 |s::l,t,h0,h1,h=>by
  have U:=h s bt;simp[c7,aQ] at U;rw[List.foldl_cons];split
  .exact Et om om λx hx=>h x (by simp[hx])
  exact Et h0 h1 λx hx=>h x (by simp[hx])
def AF {l:List cA} (h:∀s∈l,c7 s=true) (k:Nat):0<=mB (l.take k)/\mB (l.take k)<=9999:=Et om om λs U=>h s (List.mem_of_mem_take U)
def iW (l:List cA):Bool:=decide (mB l<9999)
def oa (site:Int) (l:List cA):cA:=if iW l then⟨mB l+1,site⟩ else⟨0,0⟩
def qE (key:Int) (v:aD):Bool:=v.key==key
def gf (l:List aD) (key:Int):Option aD:=l.reverse.find? (qE key)
def Eu {l:List aD} {key:Int} {v:aD} (h:gf l key=some v):v∈l/\v.key=key:=by
 unfold gf at h;have h1:=List.mem_of_find?_eq_some h;have h2:=List.find?_some h;exact⟨List.mem_reverse.1 h1,by simpa[qE] using h2⟩
def fW (l:List aD) (v:aD):Bool:=eD v&&decide (placeOf l v.bG<0)&&decide (l.length<80)
def eR (slot:Int) (v:aD):Bool:=gS v.key==slot
def gh (l:List an) (d:an):Int:=di (λe=>decide (e=d)) l
def jw:List an->an->List an
 |[],d=>[d]
 |e::r,d=>if dF d e then d::e::r else e::jw r d
def ek (l:List an) (d:an):List an:=if 0<=gh l d then l else jw l d
structure kU (l:List an) (v:an) (k:Nat) (done:Bool) (out:List an):Prop where
 hk:k<=l.length
 eq:jw l v=if done then out++l.drop k else out++jw (l.drop k) v
 len:out.length<=k+done.toNat
def kU.zero (l:List an) (v:an):kU l v 0 false []:=⟨Nat.zero_le _,by simp,by simp⟩
section
variable {l:List an} {v:an} {k:Nat} {out:List an} {done:Bool}
def kU.before (hp:kU l v k false out) (h:k<l.length) (he:dF v (ab l k)=true):kU l v (k+1) true ((out++[v])++[ab l k]):=by
 refine⟨h,?_,by have:=hp.len;simp at this⊢;omega⟩;have:=hp.eq;rw[j0 h] at this;simp only[jw,if_pos he] at this;rw[this];simp
def kU.step (hp:kU l v k done out) (h:k<l.length) (he:done=true\/dF v (ab l k)=false):kU l v (k+1) done (out++[ab l k]):=by
 refine⟨h,?_,by have:=hp.len;simp;omega⟩;have:=hp.eq;cases done
 .rw[j0 h] at this;have he:dF v (ab l k)=false:=he.resolve_left bt;simp only[jw,he] at this;rw[this];simp
 simp only[if_true] at this⊢;rw[this,j0 h];simp
def kU.nW (hp:kU l v k true out) (h:l.length<=k):out=jw l v:=by
 have:=hp.eq;rw[List.drop_eq_nil_of_le h] at this;simpa using this.symm
def kU.nX (hp:kU l v k false out) (h:l.length<=k):out++[v]=jw l v:=by
 have:=hp.eq;rw[List.drop_eq_nil_of_le h] at this;simpa[jw] using this.symm
end
def Lb (l:List an) (v:an):(jw l v).length=l.length+1:=by
 induction l with
 |nil=>rfl
 |cons x r ih=>unfold jw;split<;>simp[ih]
def mC (s:Server) (d:an):Bool:=decide (0<=placeOf s.ar d)||decide (0<=gh s.bn d)
def AG (s:Server) (v:aD):Bool:=cT v.aS.length λi=>mC s (ab v.aS i)
def ob (d:an) (v:aD):Bool:=decide (0<=gh v.aS d)
def gV (s:Server) (d:an):Bool:=!cT s.waits.length λi=>!ob d (ab s.waits i)
def fw (s:Server) (key:Int):Bool:=cY key&&(eB s key==1)
def j5 (s:Server) (v:aD):Bool:=(eB s v.key==1)&&AG s v
def eK (s:Server):Int:=if s.ar.length<80 then di (j5 s) s.waits else-1
def lO (s:Server) (n:Nat):Server:={s with ar:=ej s.ar (ab s.waits n),waits:=s.waits.take n++s.waits.drop (n+1)}
def kV:Nat->Server->Server
 |0,s=>s
 |n+1,s=>if eK s<0 then s else kV n (lO s (eK s).toNat)
def ig (s:Server):Server:=kV s.waits.length s
def AH (s:Server):Server:={s with bn:=s.bn.filter (gV s)}
def gW (s:Server):Server:=AH (ig s)
def xO {s:Server} (h:0<=eK s):(eK s).toNat<s.waits.length/\s.ar.length<80/\j5 s (ab s.waits (eK s).toNat)=true:=by
 unfold eK at*;split at h
 .rename_i hl;rw[if_pos hl];unfold di at*;split at h
  .rename_i k hk;obtain⟨h1,h2,_⟩:=List.findIdx?_eq_some_iff_getElem.1 hk;exact⟨by simpa using h1,hl,by simpa[ab,h1] using h2⟩
  omega
 omega
def Ew {s:Server} {n:Nat} (h:n<s.waits.length):(lO s n).waits.length=s.waits.length-1:=by simp[lO];omega
def Lc {s:Server} (h:0<=eK s):ig s=ig (lO s (eK s).toNat):=by
 have hl:=(xO h).1;unfold ig;rw[Ew hl];obtain⟨n,hn⟩:∃n,s.waits.length=n+1:=⟨s.waits.length-1,by omega⟩;rw[hn];show(if eK s<0 then s else _)=_;rw[if_neg om];rfl
def Ld {s:Server} (h:eK s<0):ig s=s:=by
 unfold ig;cases s.waits.length with
 |zero=>rfl
 |succ n=>show(if eK s<0 then s else _)=_;rw[if_pos h]
structure dZ (s:Server):Prop where
 aN:s.aN.length=3
 ar:bY s.ar=true
 waits:bY s.waits=true
 apart:∀v∈s.waits,placeOf s.ar v.bG<0
 bn:s.bn.length<=80
def bW:aw:=⟨0,0,0,0,0,⟨0,0⟩,0,false,[],0,0,[],[],[]⟩
def eS (site:Int):Int:=if site%2=0 then site+1 else site-1
def gi (slot:Int) (d:an):Bool:=gS d.key==slot
def gj (s:Server) (slot:Int):aw:=
 {bW with kind:=9,aY:=s.site,to:=eS s.site,slot:=slot,bU:=(ab s.aN slot.toNat).bU,ar:=s.ar.filter (eR slot),waits:=s.waits.filter (eR slot),aE:=s.aE.filter (gi slot)}
def eb (s:Server) (slot:Int):Server:=
 {s with ar:=s.ar.filter λv=>!eR slot v,waits:=s.waits.filter λv=>!eR slot v,aE:=s.aE.filter λd=>!gi slot d}
def oc (s:Server) (key aA call:Int) (v:aD):Bool:=(v.key==key)&&(v.aA==aA)&&(v.call==call)&&(ct v.ax.site==ct s.site)
def jT (s:Server) (key aA call:Int):Option aD:=s.ar.find? (oc s key aA call)
def kW (s:Server) (m:aw) (st:cA):aw:={bW with kind:=2,aY:=s.site,to:=m.aY,call:=m.call,key:=m.key,ax:=st}
def jl (s:Server) (m:aw):List cA:=m.aS.map an.ax++(match gf s.ar m.key with|some v=>[v.ax]|none=>[])
def gm (s:Server) (m:aw):aD:=⟨m.key,oa s.site (jl s m),m.val,m.aY-10,m.call,m.aS⟩
def gX (s:Server) (m:aw):Server×List aw:=
 if aQ m.aY 10 11&&decide (1<=m.call)&&fw s m.key then
  match jT s m.key (m.aY-10) m.call with
  |some v=>(s,[kW s m v.ax])
  |none=>if iW (jl s m)&&fW s.ar (gm s m)&&decide (s.aE.length<80) then
    (gW {s with ar:=ej s.ar (gm s m),aE:=ek s.aE (gm s m).bG},[kW s m (gm s m).ax])
   else(s,[])
 else(s,[])
def rT (s:Server) (m:aw):Bool:=cQ m.aY&&(ct m.aY !=ct s.site)&&decide (m.ar.length=1)&&fw s (ab m.ar 0).key&&(ct (ab m.ar 0).ax.site !=ct s.site)
def kY (s:Server) (m:aw) (v:aD):aw:={bW with kind:=6,aY:=s.site,to:=m.aY,key:=v.key,ax:=v.ax}
def gY (s:Server) (m:aw):Server×List aw:=
 if rT s m then
  let v:=ab m.ar 0
  if placeOf s.ar v.bG<0/\placeOf s.waits v.bG<0 then
   if fW s.waits v then(gW {s with waits:=ej s.waits v},[kY s m v]) else(s,[])
  else(gW s,[kY s m v])
 else(s,[])
def rU (s:Server) (m:aw):Server:=let x:=eb s m.slot;{x with aN:=x.aN.set m.slot.toNat ⟨m.bU,0⟩}
def bN {α:Type} {f:α->List AV} (l:List α) (x:α):l.map f++[f x]=(l++[x]).map f:=by simp
def qF {l:List aD} (h:bY l=true):∀v∈l,v.aS.length<=6:=λv hv=>dY (jL (gP h v hv)).2.2
def gZ {l:List an} (h:fD l=true):l.length<=80:=by
 unfold fD at h;rw[Bool.and_eq_true,decide_eq_true_eq] at h;exact h.1
def UD (l:List aD) (v:aD) (h:l.length<=1048575) (hd:∀u∈l,u.aS.length<=1048576) (hv:v.aS.length<=1048576):
 Fn prog 102 [bV l,v.av] (bV (nc l v)):=by
 refine Fn.go 46 func102 ntmps102 (λW I a U=>?_);refine aq λI a w U=>?_;refine U.l0 λb8 I a w U=>?_;refine aM λI a w U=>?_;refine St.lo (σ:=Nat×Bool×List aD×Value) (run 3 5 (run 29 9 [])) ⟨λ⟨k,done,out,u⟩=>[(7,AV.int k),(6,AV.bool done),(5,AV.val u)],λ⟨k,done,out,u⟩=>[Own.row u 54 7 (out.map aD.cells)],λ⟨k,done,out,u⟩=>jS l v k done out⟩ (λ⟨k,done,out,u⟩=>l.length-k) (0,false,[],.slice (some ⟨b8,0,none⟩) 0 0) U ?aH ?bx;case aH=>exact jS.zero l v
 rintro⟨k,done,out,u⟩ I a w al U;have hp:jS l v k done out:=al;have hk:=hp.hk;have iO:=hp.len;have mZ:done.toNat<=1:=by cases done<;>simp
 dsimp only at U;refine aV λI a w U=>?_;refine cz (λae=>?_) λae=>?_
 .refine zt ?_;refine U.dk ?_;refine mn ?_;refine .q .T (.cl (Ef ..)) ?_;refine aW ?_;refine .nil ?_;intro I a w U;refine ba ?_;refine cz (λah=>?_) λah=>?_
  .refine aF λI a w U=>?_;refine U.o (.c1 (j4 v hv)) λU=>?_;refine U.o (.li [v.cells] iy (.u .nil)) λU=>?_;refine U.ap 0 λtn a w U=>?_;rw[bN] at U;refine fm λI a w U=>?_;refine U.o (.c1 (j4 (ab l k) (hd _ (bB ae)))) λU=>?_;refine U.o (.li [(ab l k).cells] iy (.u .nil)) λU=>?_;refine U.ap 0 λqG a w U=>?_;rw[bN] at U;refine aV λI a w U=>?_;exact U.ag (k+1,true,(out++[v])++[ab l k],qG) (by obtain⟨h1,h2⟩:=ah;subst h1;exact hp.before ae h2)
  refine bK λI a w U=>?_;refine U.o (.c1 (j4 (ab l k) (hd _ (bB ae)))) λU=>?_;refine U.o (.li [(ab l k).cells] iy (.u .nil)) λU=>?_;refine U.ap 0 λqG a w U=>?_;rw[bN] at U;refine aV λI a w U=>?_;exact U.ag (k+1,done,out++[ab l k],qG) (hp.step ae (by simpa using ah))
 refine zt ?_;refine aq λI a w U=>?_;refine cz (λaj=>?_) λaj=>?_
 .refine aF λI a w U=>?_;refine U.o (.c1 (j4 v hv)) λU=>?_;refine U.o (.li [v.cells] iy (.u .nil)) λU=>?_;refine U.ap 0 λqH a w U=>?_;rw[bN] at U;refine aM λI a w U=>?_;obtain⟨I,U⟩:=U.fr 0 4;refine U.rt ?_;exact congrArg (AV.rows 7) (by subst aj;exact hp.nX om▸rfl)
 refine aq λI a w U=>?_;obtain⟨I,U⟩:=U.fr 0 4;refine U.rt ?_;exact congrArg (AV.rows 7) (by subst aj;rw[hp.nW om])
def AI {v:aD} (h:eD v=true):bP v.aS=true:=by
 simp only[eD,Bool.and_eq_true] at h;exact h.1.2
def qI (l:List aD) (h:l.length<=1048576) (hd:∀y∈l,y.aS.length<=1048576):
 Fn prog 245 [bV l] (bV l):=by
 refine Fn.go 21 func245 ntmps245 (λW I a U=>?_);have hle:=U.eh (t:=0) rfl;refine ao λI a w U=>?_;refine U.l0 λb5 I a w U=>?_;refine aq λI a w U=>?_;refine St.lo (σ:=Nat×Value) (run 2 3 (run 14 6 [])) ⟨λ⟨k,v⟩=>[(4,AV.int k),(3,AV.val v)],λ⟨k,v⟩=>[Own.row v 54 7 ((l.take k).map aD.cells)],λ⟨k,v⟩=>k<=l.length⟩ (λ⟨k,v⟩=>l.length-k) (0,.slice (some ⟨b5,0,none⟩) 0 0) U ?aH ?bx;case aH=>exact Nat.zero_le _
 rintro⟨k,v⟩ I a w al U;have hk:k<=l.length:=al;dsimp only at U;refine aV λI a w U=>?_;refine cz (λae=>?_) λae=>?_
 .refine bK λI a w U=>?_;refine U.o (.c1 (j4 (ab l k) (hd _ (bB ae)))) λU=>?_;refine U.o (.li [(ab l k).cells] iy (.u .nil)) λU=>?_;refine U.ap 0 λj6 a w U=>?_;rw[bN,<-dO ae] at U;refine aV λI a w U=>?_;exact U.ag (k+1,j6) (ae)
 refine zt ?_;refine aq λI a w U=>?_;obtain⟨I,U⟩:=U.fr 0 2;refine U.rt ?_;exact congrArg (AV.rows 7) (by rw[List.take_of_length_le om])
def lP {α:Type} [Inhabited α] {p:α->Bool} {l:List α} {k:Nat} (h:k<l.length) (hp:p (ab l k)=true):(l.take (k+1)).filter p=(l.take k).filter p++[ab l k]:=by
 rw[dO h,List.filter_append,List.filter_cons,hp];rfl
def lQ {α:Type} [Inhabited α] {p:α->Bool} {l:List α} {k:Nat} (h:k<l.length) (hp:p (ab l k)=false):(l.take (k+1)).filter p=(l.take k).filter p:=by
 rw[dO h,List.filter_append,List.filter_cons,hp];simp
def pF {α:Type} (p:α->Bool) (l:List α) (k:Nat):((l.take k).filter p).length<=l.length:=by
 have h1:=List.length_filter_le p (l.take k);have h2:(l.take k).length<=l.length:=by simp;omega
 omega
def AJ {l:List aD} (v:aD) (hc:bY l=true):(!eD v||(jk l ⟨v.key,v.ax⟩).isSome||decide (80<=(l.length:Int)))=!fW l v:=by
 rw[vB hc];have e:decide (80<=(l.length:Int))=!decide (l.length<80):=by rw[Bool.eq_iff_iff];simp;omega
 have e2:decide (0<=placeOf l ⟨v.key,v.ax⟩)=!decide (placeOf l v.bG<0):=by
  show decide (0<=placeOf l v.bG)=_;rw[Bool.eq_iff_iff];simp
 unfold fW;rw[e,e2];simp
def qJ {l:List aD} {v:aD} (h:fW l v=true):eD v=true/\placeOf l v.bG<0/\l.length<80:=by
 unfold fW at h;simp only[Bool.and_eq_true,decide_eq_true_eq] at h;exact⟨h.1.1,h.1.2,h.2⟩
def xP (e d:an):([e.key,e.ax.time,e.ax.site]==[d.key,d.ax.time,d.ax.site])=decide (e=d):=by
 obtain⟨k,⟨t,s⟩⟩:=d;obtain⟨k',⟨t',s'⟩⟩:=e;rw[Bool.eq_iff_iff];simp
def Ex {a:Bool} {key:Int} (h:(a&&cY key)=true):0<=gS key/\gS key<3:=nU (by rw[Bool.and_eq_true] at h;exact h.2)
def xQ {s:Server} (h:gL s=true):s.aN.length=3/\bY s.ar=true/\bY s.waits=true/\fD s.aE=true/\fD s.bn=true/\cQ s.site=true:=by
 simp only[gL,Bool.and_eq_true] at h;exact Ek h.1.1.1.1
def AK (l:List aD) (v:aD) (hc:bY l=true):
 Fn prog 295 [bV l,v.av] (AV.c6 [bV (if fW l v then ej l v else l),AV.bool (fW l v)]):=by
 refine Fn.go 37 func295 ntmps295 (λW I a U=>?_);have hle:=U.eh (t:=0) rfl;have vD:=fV hc;have gA:=qF hc;refine bj λI a w U=>?_;refine U.o (.cl (qA ..)) λU=>?_;refine ao λI a w U=>?_;refine U.cd (λae=>?_) λae=>?_
 .exfalso;rw[hc] at ae;cases ae;skip
 refine bK λI a w U=>?_;refine U.o (.cl (pC ..)) λU=>?_;refine bc λI a w U=>?_;refine U.alloc rfl bL dy λb6 I a w U=>?_;refine U.sb 0 λU=>?_;obtain⟨I,U⟩:=U.fb 0 6;refine aF λI a w U=>?_;refine U.o (.c1 (Ax ..)) λU=>?_;refine m4 λI a w U=>?_;refine U.cd (λah=>?_) λah=>?_
 .rw[AJ v hc] at ah;replace ah:=nt ah;refine bw λI a w U=>?_;refine U.o (cq (qI l om (λu hu=>by have:=gA u hu;omega)) (ai .r aB)) λU=>?_;refine dh ?_;exact(by rw[ah];rfl)
 rw[AJ v hc] at ah;replace ah:=nf ah;refine aF λI a w U=>?_;refine U.o (cq (UD l v om (λu hu=>by have:=gA u hu;omega) (by have:=dY (AI (qJ ah).1);omega)) (ai .r (ai (.t rfl) aB))) λU=>?_;refine dh ?_;exact(by rw[ah,<-Es (nZ (qJ ah).2.1)];rfl)
def AL (l:List aD) (slot:Int) (hc:bY l=true):
 Fn prog 340 [bV l,AV.int slot] (AV.c6 [bV (l.filter (eR slot)),bV (l.filter (λv=>!eR slot v))]):=by
 refine Fn.go 48 func340 ntmps340 (λW I a U=>?_);have hle:=U.eh (t:=0) rfl;have vD:=fV hc;have gA:=qF hc;refine aq λI a w U=>?_;refine U.l0 λb9 I a w U=>?_;refine ao λI a w U=>?_;refine U.l0 λjU I a w U=>?_;refine aF λI a w U=>?_;refine U.o (.cl (qA ..)) λU=>?_;refine ao λI a w U=>?_;refine U.cd (λae=>?_) λae=>?_
 .exfalso;rw[hc] at ae;cases ae;skip
 refine ao λI a w U=>?_;refine St.lo (σ:=Nat×Value×Value) (run 3 6 (run 30 16 [])) ⟨λ⟨k,u,v⟩=>[(8,AV.int k),(6,AV.val u),(7,AV.val v)],λ⟨k,u,v⟩=>[Own.row u 54 7 (((l.take k).filter (eR slot)).map aD.cells),Own.row v 54 7 (((l.take k).filter (λv=>!eR slot v)).map aD.cells)],λ⟨k,u,v⟩=>k<=l.length⟩ (λ⟨k,u,v⟩=>l.length-k) (0,.slice (some ⟨b9,0,none⟩) 0 0,.slice (some ⟨jU,0,none⟩) 0 0) U ?aH ?bx;case aH=>exact Nat.zero_le _
 rintro⟨k,u,v⟩ I a w al U;have hk:k<=l.length:=al;have Le:=pF (eR slot) l k;have Lf:=pF (λv=>!eR slot v) l k;dsimp only at U;refine aV λI a w U=>?_;refine cz (λah=>?_) λah=>?_
 .refine bK λI a w U=>?_;refine U.o (.c1 (rM ..)) λU=>?_;refine aq λI a w U=>?_;refine U.cd (λaj=>?_) λaj=>?_
  .change eR slot (ab l k)=true at aj;refine bK λI a w U=>?_;refine U.o (cq (j4 _ (by have:=gA _ (bB ah);omega)) (ai (.t rfl) aB)) λU=>?_;refine U.o (.li [(ab l k).cells] iy (.u .nil)) λU=>?_;refine U.ap 0 λqG a w U=>?_;rw[bN,<-lP ah aj,show(l.take k).filter (λv=>!eR slot v)=(l.take (k+1)).filter (λv=>!eR slot v) from(lQ ah (by show(!eR slot _)=false;rw[aj];rfl)).symm] at U;refine aV λI a w U=>?_;exact U.ag (k+1,qG,v) (ah)
  change eR slot (ab l k)=false at aj;refine bK λI a w U=>?_;refine U.o (cq (j4 _ (by have:=gA _ (bB ah);omega)) (ai (.t rfl) aB)) λU=>?_;refine U.o (.li [(ab l k).cells] iy (.u .nil)) λU=>?_;refine U.ap 1 λEy a w U=>?_;rw[bN,<-lP (p:=(λv=>!eR slot v)) ah (by show(!eR slot _)=true;rw[aj];rfl),show(l.take k).filter (eR slot)=(l.take (k+1)).filter (eR slot) from(lQ ah aj).symm] at U;refine aV λI a w U=>?_;exact U.ag (k+1,u,Ey) (ah)
 refine zt ?_;refine aV λI a w U=>?_;obtain⟨I,U⟩:=U.fr 0 4;obtain⟨I,U⟩:=U.fr 1 5;refine U.rt ?_;exact(by rw[List.take_of_length_le om];rfl)
def xR (l:List an) (d:an):
 Fn prog 319 [bf l,d.av] (AV.int (gh l d)):=by
 refine Fn.go 19 func319 ntmps319 (λW I a U=>?_);have hle:=U.eh (t:=0) rfl;refine aM λI a w U=>?_;refine St.lo (σ:=Nat) (run 15 4 []) ⟨λk=>[(5,AV.int k)],λk=>[],λk=>k<=l.length/\∀i,i<k->(λe=>decide (e=d)) (ab l i)=false⟩ (λk=>l.length-k) 0 U ?aH ?bx;case aH=>exact⟨Nat.zero_le _,λi hi=>by omega⟩
 rintro k I a w al U;obtain⟨hk,aU⟩:=al;refine aV λI a w U=>?_;refine cz (λae=>?_) λae=>?_
 .refine zt ?_;refine U.dk ?_;refine eP ?_;refine .o (lF [_,_,_] [_,_,_] vj rfl rfl .tt .tt)<|.nil ?_;intro I a w U;refine ba ?_;refine U.cd (λah=>?_) λah=>?_
  .rw[xP] at ah;refine dh ?_;exact eW (lK ae aU ah).symm
  rw[xP] at ah;refine aM λI a w U=>?_;exact U.ag (k+1) (⟨ae,λi h1=>by rcases Nat.lt_succ_iff_lt_or_eq.1 h1 with h|h;exact aU i h;rw[h];exact ah⟩)
 refine zt ?_;refine bk ?_;exact eW (kR om aU).symm
def Lg (s:Server) (d:an) (hc:bY s.ar=true):
 Fn prog 318 [s.av,d.av] (AV.bool (mC s d)):=by
 refine Fn.go 25 func318 ntmps318 (λW I a U=>?_);refine tb λI a w U=>?_;refine U.o (.cl (pC ..)) λU=>?_;refine bc λI a w U=>?_;refine U.alloc rfl bL dy λb5 I a w U=>?_;refine U.sb 0 λU=>?_;obtain⟨I,U⟩:=U.fb 0 5;refine dp λI a w U=>?_;refine U.q .F (.cl (xR ..)) λU=>?_;refine qx ?_;exact bI (by unfold mC;rw[vB hc])
def UE (s:Server) (v:aD) (hc:bY s.ar=true):
 Fn prog 357 [s.av,v.av] (AV.bool (AG s v)):=by
 refine Fn.go 21 func357 ntmps357 (λW I a U=>?_);have lens:v.aS.length<=9223372036854775807:=U.ln 1 6;refine aV λI a w U=>?_;refine St.lo (σ:=Nat) (run 17 4 []) ⟨λk=>[(5,AV.int k)],λk=>[],λk=>k<=v.aS.length/\∀i,i<k->(λi=>mC s (ab v.aS i)) i=true⟩ (λk=>v.aS.length-k) 0 U ?aH ?bx;case aH=>exact⟨Nat.zero_le _,λi hi=>by omega⟩
 rintro k I a w al U;obtain⟨pE,aU⟩:=al;refine cn λI a w U=>?_;refine cz (λae=>?_) λae=>?_
 .refine zt ?_;refine U.dk ?_;refine gw ?_;refine .o (.c2 (Lg _ _ hc)) ?_;refine aW ?_;refine .nil ?_;intro I a w U;refine ba ?_;refine cz (λah=>?_) λah=>?_
  .refine bk ?_;exact bI (eX (f:=λi=>mC s (ab v.aS i)) ae ah).symm
  refine aM λI a w U=>?_;exact U.ag (k+1) (⟨by omega,fO aU ah⟩)
 refine zt ?_;refine bk ?_;exact bI (eO aU om).symm
def Lh (s:Server) (d:an):
 Fn prog 338 [s.av,d.av] (AV.bool (gV s d)):=by
 refine Fn.go 22 func338 ntmps338 (λW I a U=>?_);have lens:s.aN.length<=9223372036854775807/\s.ar.length<=9223372036854775807/\s.waits.length<=9223372036854775807/\s.aE.length<=9223372036854775807/\s.bn.length<=9223372036854775807:=⟨U.ln 0 2,U.ln 0 3,U.ln 0 4,U.ln 0 5,U.ln 0 6⟩;refine aV λI a w U=>?_;refine St.lo (σ:=Nat) (run 18 4 []) ⟨λk=>[(5,AV.int k)],λk=>[],λk=>k<=s.waits.length/\∀i,i<k->(λi=>!ob d (ab s.waits i)) i=true⟩ (λk=>s.waits.length-k) 0 U ?aH ?bx;case aH=>exact⟨Nat.zero_le _,λi hi=>by omega⟩
 rintro k I a w al U;obtain⟨pE,aU⟩:=al;refine cn λI a w U=>?_;refine cz (λae=>?_) λae=>?_
 .refine zt ?_;refine U.dk ?_;refine jJ ?_;refine .o (.cl (xR ..)) ?_;refine aW ?_;refine .nil ?_;intro I a w U;refine ba ?_;refine cz (λah=>?_) λah=>?_
  .refine bk ?_;exact bI (by unfold gV;rw[eX (f:=λi=>!ob d (ab s.waits i)) ae (by unfold ob;simp;omega)];rfl)
  refine aM λI a w U=>?_;exact U.ag (k+1) (⟨by omega,fO aU (by unfold ob;simp;omega)⟩)
 refine zt ?_;refine bk ?_;exact bI (by unfold gV;rw[eO aU om];rfl)
def Ez (s:Server) (key:Int) (al:gL s=true):
 Fn prog 332 [s.av,AV.int key] (AV.bool (fw s key)):=by
 refine Fn.go 21 func332 ntmps332 (λW I a U=>?_);have hp:=xQ al;refine aq λI a w U=>?_;refine U.dk ?_;refine aW ?_;refine .o (.c1 (rR ..)) ?_;refine cg ?_;refine .q .T (.cl (rL ..)) ?_;refine eP ?_;refine .q .T (.cl (rM ..)) ?_;refine .q .T ((by first|exact dE fq dR .ag .ag (λhg=>by have:=Ex hg;omega)|exact eG fq dR .ag .ag (λhg=>by have:=Ex hg;omega)|exact eM fq dR .ag .ag (λhg=>by have:=Ex hg;omega))) ?_;refine eP ?_;refine .nil ?_;intro I a w U;refine zt ?_;refine U.rt ?_;exact bI (by rw[al];rfl)
def vE (n:Int) (hn:cQ n=true):
 Fn prog 313 [AV.int n] (AV.int (eS n)):=by
 refine Fn.go 10 func313 ntmps313 (λW I a U=>?_);have uO:0<=n/\n<=3:=by simpa[cQ,aQ] using hn
 refine aF λI a w U=>?_;refine U.o (rC .tt .c (λ_=>by omega)) λU=>?_;refine ao λI a w U=>?_;refine U.cd (λae=>?_) λae=>?_
 .refine qx ?_;exact eW (by unfold eS;rw[if_pos (by simpa using ae)])
 refine qx ?_;exact eW (by unfold eS;rw[if_neg (by simpa using ae)])
def xS {α:Type} [Inhabited α] {R:α->α->Prop} {l:List α} (h:l.Pairwise R) {i j:Nat} (jE:i<j) (hj:j<l.length):R (ab l i) (ab l j):=by
 rw[List.pairwise_iff_getElem] at h;have:=h i j om hj jE;have e:∀k (hk:k<l.length),l[k]=ab l k:=λk hk=>by simp[ab,hk]
 rwa[e i om,e j hj] at this
def EB {α:Type} [Inhabited α] {cH:α->Bool} {less:α->α->Bool} (tr:∀{a b d},less a b=true->less b d=true->less a d=true) {l:List α}:
 cT l.length (et cH less l)=true↔(∀x∈l,cH x=true)/\l.Pairwise λa b=>less a b=true:=by
 rw[iR];constructor
 .intro h;refine⟨λx hx=>?_,UC (R:=λa b=>less a b=true) (λh1 h2=>tr h1 h2) λi h0 hi=>?_⟩
  .obtain⟨k,hk,rfl⟩:=iz hx;have:=h k hk;unfold et at this;rw[Bool.and_eq_true] at this;exact this.1
  have:=h i hi;unfold et at this;rw[Bool.and_eq_true,Bool.or_eq_true,decide_eq_true_eq] at this;rcases this.2 with h3|h3
  .omega
  exact h3
 rintro⟨h1,h2⟩ i hi;unfold et;rw[Bool.and_eq_true,Bool.or_eq_true,decide_eq_true_eq];refine⟨h1 _ (bB hi),?_⟩;rcases Nat.eq_zero_or_pos i with h|h
 .exact Or.inl h
 exact Or.inr (xS h2 om hi)
def UF {a b d:aD} (h:ga a b=true) (h':ga b d=true):ga a d=true:=xM h h'
def tp {l:List aD}:bY l=true↔l.length<=80/\(∀v∈l,eD v=true)/\VS l:=by
 unfold bY;rw[Bool.and_eq_true,decide_eq_true_eq,EB (less:=ga) (λh1 h2=>UF h1 h2)];rfl
def vF {l:List an}:fD l=true↔l.length<=80/\(∀d∈l,jP d=true)/\l.Pairwise λa b=>dF a b=true:=by
 unfold fD;rw[Bool.and_eq_true,decide_eq_true_eq,EB (less:=dF) (λh1 h2=>xM h1 h2)]
def xT {l:List aD} {v:aD} (h:bY l=true) (hv:eD v=true) (hp:placeOf l v.bG<0) (hl:l.length<80):bY (ej l v)=true:=by
 obtain⟨h1,h2,h3⟩:=tp.1 h;refine tp.2 ⟨by rw[K9];omega,λx hx=>?_,La h3 (nZ hp)⟩;rcases lN.1 hx with rfl|hx
 .exact hv
 exact h2 x hx
def xU {l m:List aD} (h:bY l=true) (U:m.Sublist l):bY m=true:=by
 obtain⟨h1,h2,h3⟩:=tp.1 h;exact tp.2 ⟨Nat.le_trans U.length_le h1,λx hx=>h2 x (U.subset hx),h3.sublist U⟩
def xV {α:Type} (l:List α) (n:Nat):(l.take n++l.drop (n+1)).Sublist l:=by
 have e:l=l.take n++l.drop n:=(List.take_append_drop n l).symm;conv=>rhs;rw[e]
 refine List.Sublist.append (List.Sublist.refl _) ?_;rw[<-List.drop_drop];exact List.drop_sublist 1 _
def EC {s:Server} (h:gL s=true):dZ s:=by
 obtain⟨h1,h2,h3,h4,h5,h6⟩:=xQ h;refine⟨h1,h2,h3,λv hv=>?_,gZ h5⟩;simp only[gL,Bool.and_eq_true] at h;obtain⟨k,hk,rfl⟩:=iz hv;have:=(iR.1 h.1.2) k hk;simp only[pz,qC,Bool.and_eq_true,decide_eq_true_eq] at this;exact this.2
def Li {l:List aD} (h:VS l) {i j:Nat} (hi:i<l.length) (hj:j<l.length) (bH:i≠j):(ab l i).bG≠(ab l j).bG:=λe=>by
 rcases Nat.lt_or_gt_of_ne bH with cj|cj
 .have:=xS h cj hj;unfold ga at this;rw[e,AD] at this;cases this
 have:=xS h cj hi;unfold ga at this;rw[e,AD] at this;cases this
def UG {α:Type} [Inhabited α] {l:List α} {n:Nat} {x:α} (h:x∈l.take n++l.drop (n+1)):∃k,k<l.length/\k≠n/\ab l k=x:=by
 rcases List.mem_append.1 h with h|h
 .obtain⟨k,hk,rfl⟩:=List.getElem_of_mem h;have eo:k<n/\k<l.length:=by simp at hk;omega
  exact⟨k,eo.2,by omega,by simp[ab,eo.2]⟩
 obtain⟨k,hk,rfl⟩:=List.getElem_of_mem h;have eo:n+1+k<l.length:=by simp at hk;omega
 exact⟨n+1+k,eo,by omega,by simp[ab,eo]⟩
def dZ.vG {s:Server} (h:dZ s) (hp:0<=eK s):dZ (lO s (eK s).toNat):=by
 obtain⟨hl,nd,_⟩:=xO hp;have hm:=bB hl;have UH:=(tp.1 h.waits).2.2;refine⟨h.aN,xT h.ar (gP h.waits _ hm) (h.apart _ hm) nd,xU h.waits (xV _ _),λv hv=>AE λx hx=>?_,h.bn⟩;obtain⟨k,hk,bH,rfl⟩:=UG hv;rcases lN.1 hx with rfl|hx
 .exactλe=>Li UH hk hl bH e.symm
 exact nZ (h.apart _ (bB hk)) x hx
def UI {s:Server} {k:Nat} (nd:s.ar.length<80) (hk:k<s.waits.length) (h:∀i,i<k->j5 s (ab s.waits i)=false) (hp:j5 s (ab s.waits k)=true):eK s=k:=by
 unfold eK;rw[if_pos nd];exact lK hk h hp
def UJ {s:Server} (h:s.ar.length<80->∀i,i<s.waits.length->j5 s (ab s.waits i)=false):eK s<0:=by
 unfold eK;split
 .rename_i nd;rw[kR (k:=s.waits.length) (Nat.le_refl _) (h nd)];omega
 omega
def Lj:∀(n:Nat) (s:Server),(kV n s).site=s.site/\(kV n s).up=s.up/\(kV n s).aN=s.aN/\(kV n s).aE=s.aE/\(kV n s).bn=s.bn
 |0,s=>⟨rfl,rfl,rfl,rfl,rfl⟩
 |n+1,s=>by
  unfold kV;split
  .exact⟨rfl,rfl,rfl,rfl,rfl⟩
  obtain⟨a,b,d,e,f⟩:=Lj n (lO s (eK s).toNat);exact⟨a,b,d,e,f⟩
def qK {α:Type} {p:α->Bool} {l:List α} {x:α} (h:x∈l.filter p):x∈l:=(List.mem_filter.1 h).1
def dZ.drop {s:Server} (h:dZ s) (slot:Int):dZ (eb s slot):=
 ⟨h.aN,xU h.ar (List.filter_sublist),xU h.waits (List.filter_sublist),λv hv=>AE λx hx=>nZ (h.apart v (qK hv)) x (qK hx),h.bn⟩
def dZ.UK {s:Server} (h:dZ s) {x:List cI} (hx:x.length=3):dZ {s with aN:=x}:=⟨hx,h.ar,h.waits,h.apart,h.bn⟩
def dZ.gone {s:Server} (h:dZ s) (m:aw):dZ (rU s m):=(h.drop m.slot).UK (by show(s.aN.set _ _).length=3;rw[List.length_set];exact h.aN)
def dZ.ED {s:Server} (h:dZ s) {v:aD} (hc:fW s.waits v=true) (hp:placeOf s.ar v.bG<0):dZ {s with waits:=ej s.waits v}:=by
 obtain⟨h1,h2,h3⟩:=qJ hc;refine⟨h.aN,h.ar,xT h.waits h1 h2 h3,λx hx=>?_,h.bn⟩;rcases lN.1 hx with rfl|hx
 .exact hp
 exact h.apart x hx
def mD {m:aw} (h:bQ m=true):bY m.ar=true/\bY m.waits=true/\fD m.aE=true/\bP m.aS=true:=by
 simp only[bQ,Bool.and_eq_true] at h;exact⟨h.1.1.2,h.1.2,h.2,h.1.1.1.1.1.2⟩
def EE {α:Type} [Inhabited α] {p:α->Bool} {l:List α}:hasB p l=true↔∃x∈l,p x=true:=⟨Em,λ⟨_,hx,hp⟩=>AA hx hp⟩
def EF {α:Type} [Inhabited α] {p:α->Bool} {l:List α}:hasB p l=false↔∀x∈l,p x=false:=by
 rw[<-Bool.not_eq_true,EE];exact⟨λh x hx=>by cases hp:p x;rfl;exact absurd ⟨x,hx,hp⟩ h,λh ⟨x,hx,hp⟩=>by rw[h x hx] at hp;cases hp⟩
def xW {α:Type} [Inhabited α] {p:α->Bool} {l:List α}:(cT l.length λi=>p (ab l i))=true↔∀x∈l,p x=true:=by
 rw[iR];exact⟨λh x hx=>by obtain⟨k,hk,rfl⟩:=iz hx;exact h k hk,λh i hi=>h _ (bB hi)⟩
def EG {l:List aD} {d:an}:0<=placeOf l d↔∃x∈l,x.bG=d:=by
 constructor
 .intro h;obtain⟨h1,h2⟩:=xN h;exact⟨_,bB h1,h2⟩
 rintro⟨x,hx,he⟩;apply Int.not_lt.1;intro hn;exact nZ hn x hx he
def Lk {l:List aD} {d:an}:placeOf l d<0↔∀x∈l,x.bG≠d:=⟨nZ,AE⟩
def UL {l:List aD} {ds:List an}:vy l ds=true↔∀d∈ds,∃x∈l,x.bG=d:=by
 unfold vy;rw[Bool.not_eq_true',EF];refine forall_congr' λd=>forall_congr' λhd=>?_;rw[<-EG];unfold missing;simp
structure bA (s:Server):Prop where
 site:cQ s.site=true
 aN:s.aN.length=3
 ar:bY s.ar=true
 waits:bY s.waits=true
 aE:fD s.aE=true
 bn:fD s.bn=true
 up:s.up=false->s.bn=[]
 cH:∀x∈s.aN,nS x=true
 here:∀v∈s.ar,eB s v.key≠0
 ng:∀v∈s.waits,eB s v.key≠0
 nh:∀v∈s.waits,ct v.ax.site≠ct s.site
 apart:∀v∈s.waits,∀x∈s.ar,x.bG≠v.bG
 ni:∀d∈s.aE,∃x∈s.ar,x.bG=d
def iL {s:Server}:gL s=true↔bA s:=by
 have e1:(cT s.aN.length (py s))=true↔∀x∈s.aN,nS x=true:=by
  have e:py s=λi=>nS (ab s.aN i):=by funext i;unfold py;rfl
  rw[e];exact xW
 have e2:(cT s.ar.length (qB s))=true↔∀x∈s.ar,(eB s x.key !=0)=true:=by
  have e:qB s=λi=>(λv:aD=>eB s v.key !=0) (ab s.ar i):=by funext i;unfold qB;rfl
  rw[e];exact xW (p:=λv:aD=>eB s v.key !=0)
 have e3:(cT s.waits.length (pz s))=true↔∀x∈s.waits,qC s x=true:=by
  have e:pz s=λi=>qC s (ab s.waits i):=by funext i;unfold pz;rfl
  rw[e];exact xW
 have eu:(!(!s.up&&decide (0<s.bn.length)))=true↔(s.up=false->s.bn=[]):=by
  cases s.up<;>simp
 unfold gL rN;simp only[Bool.and_eq_true,decide_eq_true_eq];rw[e1,e2,e3,UL,eu];constructor
 .rintro⟨⟨⟨⟨⟨⟨⟨⟨⟨⟨a1,a2⟩,a3⟩,a4⟩,a5⟩,a6⟩,a7⟩,a8⟩,a9⟩,tq⟩,xX⟩;refine⟨a1,a2,a3,a4,a5,a6,a7,a8,λv hv=>by simpa using a9 v hv,λv hv=>?_,λv hv=>?_,λv hv=>?_,xX⟩<;>
   have:=tq v hv<;>simp only[qC,Bool.and_eq_true,decide_eq_true_eq,Lk,bne_iff_ne] at this
  .exact this.1.1
  .exact this.1.2
  exact this.2
 intro h;refine⟨⟨⟨⟨⟨⟨⟨⟨⟨⟨h.site,h.aN⟩,h.ar⟩,h.waits⟩,h.aE⟩,h.bn⟩,h.up⟩,h.cH⟩,λv hv=>by simpa using h.here v hv⟩,λv hv=>?_⟩,h.ni⟩;simp only[qC,Bool.and_eq_true,decide_eq_true_eq,Lk,bne_iff_ne];exact⟨⟨h.ng v hv,h.nh v hv⟩,h.apart v hv⟩
def bA.ok {s:Server} (h:bA s):dZ s:=EC (iL.2 h)
def Ll {l:List aD} {v:aD} {d:an} (h:∃x∈l,x.bG=d):∃x∈ej l v,x.bG=d:=let⟨x,hx,e⟩:=h;⟨x,lN.2 (.inr hx),e⟩
def AM:∀{l:List an} {d x:an},x∈jw l d↔x=d\/x∈l
 |[],d,x=>by simp[jw]
 |e::r,d,x=>by
  unfold jw;split
  .simp
  rw[List.mem_cons,AM,List.mem_cons];constructor
  .rintro(h|h|h)<;>simp[h]
  rintro(h|h|h)<;>simp[h]
def Lm:∀{l:List an} {d:an},(l.Pairwise λa b=>dF a b=true)->(∀x∈l,x≠d)->(jw l d).Pairwise λa b=>dF a b=true
 |[],d,_,_=>by simp[jw]
 |e::r,d,h,hn=>by
  unfold jw;rw[List.pairwise_cons] at h;split
  .rename_i hl;rw[List.pairwise_cons];refine⟨λx hx=>?_,List.pairwise_cons.2 h⟩;rcases List.mem_cons.1 hx with rfl|hx
   .exact hl
   exact xM hl (h.1 x hx)
  rename_i hl;rw[List.pairwise_cons];refine⟨λx hx=>?_,Lm h.2 λx hx=>hn x (by simp[hx])⟩;rcases AM.1 hx with rfl|hx
  .cases hd:dF e x with
   |true=>rfl
   |false=>exact absurd (AB hd (by simpa using hl)) (hn e bt)
  exact h.1 x hx
def vH {l:List an} {d:an}:0<=gh l d↔d∈l:=by
 have:=EE (p:=λe=>decide (e=d)) (l:=l);unfold hasB at this;simp only[decide_eq_true_eq] at this;unfold gh;rw[this];exact⟨λ⟨x,hx,e⟩=>e▸hx,λh=>⟨d,h,rfl⟩⟩
def UM {l:List an} {d x:an}:x∈ek l d↔x=d\/x∈l:=by
 unfold ek;split
 .rename_i h;exact⟨.inr,λh'=>h'.elim (λe=>e▸vH.1 h) id⟩
 exact AM
def Ln {l:List an} {d:an} (h:fD l=true) (hd:jP d=true) (hl:l.length<80):fD (ek l d)=true:=by
 obtain⟨h1,h2,h3⟩:=vF.1 h;unfold ek;split
 .exact h
 rename_i hn;refine vF.2 ⟨by rw[Lb];omega,λx hx=>?_,Lm h3 λx hx e=>hn (vH.2 (e▸hx))⟩;rcases AM.1 hx with rfl|hx
 .exact hd
 exact h2 x hx
def EH {α:Type} {l:List α} {n:Nat} {x:α} (h:x∈l.take n++l.drop (n+1)):x∈l:=(xV l n).subset h
def bA.vG {s:Server} (h:bA s) (hp:0<=eK s):bA (lO s (eK s).toNat):=by
 obtain⟨hl,nd,hg⟩:=xO hp;have hm:=bB hl;have al:=h.ok.vG hp;refine⟨h.site,h.aN,al.ar,al.waits,h.aE,h.bn,h.up,h.cH,λv hv=>?_,λv hv=>h.ng v (EH hv),λv hv=>h.nh v (EH hv),λv hv=>nZ (al.apart v hv),λd hd=>Ll (h.ni d hd)⟩;rcases lN.1 hv with rfl|hv
 .exact h.ng _ hm
 exact h.here v hv
def UN (s:Server):(ig s).site=s.site/\(ig s).up=s.up/\(ig s).aN=s.aN/\(ig s).aE=s.aE/\(ig s).bn=s.bn:=Lj _ s
def xY (s:Server):(gW s).site=s.site/\(gW s).up=s.up/\(gW s).aN=s.aN/\(gW s).aE=s.aE:=by
 obtain⟨a,b,d,e,_⟩:=UN s;exact⟨a,b,d,e⟩
def nj {m:aw} (h:bQ m=true):(1<=m.kind/\m.kind<=10)/\kH m.aY=true/\kH m.to=true/\(0<=m.call/\m.call<=99)/\cY m.key=true/\jO m.ax=true/\(0<=m.val/\m.val<=9999)/\bP m.aS=true/\(0<=m.slot/\m.slot<=2)/\(0<=m.bU/\m.bU<=9999)/\bY m.ar=true/\bY m.waits=true/\fD m.aE=true:=by
 simp only[bQ,Bool.and_eq_true,aQ,decide_eq_true_eq] at h;obtain⟨⟨⟨⟨⟨⟨⟨⟨⟨⟨⟨⟨a1,a2⟩,a3⟩,a4⟩,a5⟩,a6⟩,a7⟩,a8⟩,a9⟩,tq⟩,xX⟩,EI⟩,EJ⟩:=h;exact⟨a1,a2,a3,a4,a5,a6,a7,a8,a9,tq,xX,EI,EJ⟩
def AN {s:Server} {key:Int} (h:fw s key=true):cY key=true/\eB s key=1:=by
 unfold fw at h;rw[Bool.and_eq_true] at h;exact⟨h.1,by simpa using h.2⟩
def EK {l:List an} (h:bP l=true):∀d∈l,jP d=true:=λd hd=>nV h hd
def UO {site:Int} {l:List cA} (hn:cQ site=true) (hl:∀s∈l,c7 s=true) (ho:iW l=true):c7 (oa site l)=true/\(oa site l).site=site/\∀s∈l,s.time<(oa site l).time:=by
 have hr:=AF hl l.length;rw[List.take_length] at hr;have hm:mB l<9999:=by simpa[iW] using ho
 have hle:∀(l:List cA) (t:Int),t<=l.foldl (λt s=>if t<s.time then s.time else t) t/\∀s∈l,s.time<=l.foldl (λt s=>if t<s.time then s.time else t) t:=by
  intro l;induction l with
  |nil=>intro t;simp
  |cons a r ih=>
   intro t
   rw[List.foldl_cons]
   have h1:=ih (if t<a.time then a.time else t)
   have h2:t<=(if t<a.time then a.time else t)/\a.time<=(if t<a.time then a.time else t):=by split<;>omega
   refine⟨by omega,λs U=>?_⟩
   rcases List.mem_cons.1 U with rfl|U
   .omega
   exact h1.2 s U
 unfold oa;rw[ho,if_pos rfl];refine⟨by simp[c7,aQ,hn];omega,rfl,λs U=>?_⟩;have:=(hle l 0).2 s U;show s.time<mB l+1;unfold mB;omega
def EL {s:Server} {m:aw} (h:bA s) (hm:bQ m=true):∀x∈jl s m,c7 x=true:=by
 intro x hx;unfold jl at hx;rcases List.mem_append.1 hx with hx|hx
 .obtain⟨d,hd,rfl⟩:=List.mem_map.1 hx;have:=EK (nj hm).2.2.2.2.2.2.2.1 d hd;simp only[jP,Bool.and_eq_true] at this;exact this.2
 split at hx
 .rename_i v hv;obtain rfl:x=v.ax:=by simpa using hx
  exact(jL (gP h.ar v (Eu hv).1)).2.1
 simp at hx
def EM {s:Server} {m:aw} (h:bA s) (hm:bQ m=true) (ho:iW (jl s m)=true):(gm s m).ax.site=s.site/\c7 (gm s m).ax=true/\∀x∈jl s m,x.time<(gm s m).ax.time:=by
 obtain⟨h1,h2,h3⟩:=UO h.site (EL h hm) ho;exact⟨h2,h1,h3⟩
def bA.put {s:Server} (h:bA s) {v:aD} (hc:fW s.ar v=true) (U:ct v.ax.site=ct s.site) (bX:eB s v.key≠0) (hl:s.aE.length<80):bA {s with ar:=ej s.ar v,aE:=ek s.aE v.bG}:=by
 obtain⟨h1,h2,h3⟩:=qJ hc;have hp:=jL h1;refine⟨h.site,h.aN,xT h.ar h1 h2 h3,h.waits,Ln h.aE (by simp only[jP,Bool.and_eq_true];exact⟨hp.1,hp.2.1⟩) hl,h.bn,h.up,h.cH,λx hx=>?_,h.ng,h.nh,λw hw x hx=>?_,λd hd=>?_⟩
 .rcases lN.1 hx with rfl|hx
  .exact bX
  exact h.here x hx
 .rcases lN.1 hx with rfl|hx
  .intro e;have:=h.nh w hw;have e2:w.ax=x.ax:=by have:=congrArg an.ax e;exact this.symm
   rw[e2] at this;exact this U
  exact h.apart w hw x hx
 rcases UM.1 hd with rfl|hd
 .exact⟨v,lN.2 (.inl rfl),rfl⟩
 exact Ll (h.ni d hd)
def AO {s:Server} {m:aw} (h:rT s m=true):cQ m.aY=true/\ct m.aY≠ct s.site/\m.ar.length=1/\fw s (ab m.ar 0).key=true/\ct (ab m.ar 0).ax.site≠ct s.site:=by
 unfold rT at h;simp only[Bool.and_eq_true,decide_eq_true_eq,bne_iff_ne] at h;exact⟨h.1.1.1.1,h.1.1.1.2,h.1.1.2,h.1.2,h.2⟩
def qL (c:Call) (d:an):Bool:=decide (0<=cE c d.key)&&my (ab c.az (cE c d.key).toNat) d.ax
structure dQ (q:Call) (t:Int):Prop where
 aA:eN q.aA=true
 num:1<=q.num/\q.num<=99
 keys:ie q=true
 val:0<=q.val/\q.val<=9999
 ctx:bP q.ctx=true
 aL:bP q.aL=true
 bq:1<=q.bq/\q.bq<=t
 fits:jO q.ax=true
 has:∀a∈q.az,gz q.keys a.key=true
 sorted:q.az.Pairwise λa b=>fS a b=true
 cH:∀a∈q.az,dH a=true
 vI:∀d∈q.aL,qL q d=true
 full:q.aL=[]\/q.az.length=q.keys.length
 put:q.kind=1->q.az=[]/\q.aL=[]
 read:q.kind≠1->q.val=0/\dW q.ax=true
 open_:q.end_=0->dW q.ax=true
 ended:q.end_≠0->q.over=false/\(q.bq+1<=q.end_/\q.end_<=t)/\q.aL=[]/\(q.kind=1->dW q.ax=false)/\(q.kind≠1->q.az.length=q.keys.length)
def UP {a b d:Answer} (h:fS a b=true) (h':fS b d=true):fS a d=true:=by
 unfold fS at*;rw[decide_eq_true_eq] at*;omega
def Lo {q:Call}:lM q=true↔(∀a∈q.az,gz q.keys a.key=true)/\(q.az.Pairwise λa b=>fS a b=true)/\∀a∈q.az,dH a=true:=by
 unfold lM;rw[iR];have h1:=EB (cH:=λa:Answer=>gz q.keys a.key) (less:=fS) (λh1 h2=>UP h1 h2) (l:=q.az);rw[iR] at h1;unfold m8;constructor
 .intro h;have h2:=h1.1 λi hi=>(Bool.and_eq_true _ _▸h i hi:_/\_).1;refine⟨h2.1,h2.2,λa ha=>?_⟩;obtain⟨k,hk,rfl⟩:=iz ha;exact(Bool.and_eq_true _ _▸h k hk:_/\_).2
 rintro⟨a1,a2,a3⟩ i hi;rw[Bool.and_eq_true];exact⟨h1.2 ⟨a1,a2⟩ i hi,a3 _ (bB hi)⟩
def pG {q:Call} {t:Int}:eY q t=true↔dQ q t:=by
 have e1:(cT q.aL.length (nY q))=true↔∀d∈q.aL,qL q d=true:=by
  have e:nY q=λi=>qL q (ab q.aL i):=by funext i;rfl
  rw[e];exact xW
 have e2:(((q.aL.length:Int)==0)||na q)=true↔q.aL=[]\/q.az.length=q.keys.length:=by
  unfold na;rw[Bool.or_eq_true,beq_iff_eq,beq_iff_eq];constructor
  .rintro(h|h)
   .exact .inl (List.length_eq_zero_iff.1 om)
   exact .inr om
  rintro(h|h)
  .exact .inl (by rw[h];rfl)
  exact .inr om
 have e3:vz q=true↔(q.kind=1->q.az=[]/\q.aL=[])/\(q.kind≠1->q.val=0/\dW q.ax=true):=by
  unfold vz;rw[K1];by_cases hk:q.kind=1
  .simp[hk]
  simp[hk]
 have e4:mz q t=true↔(q.end_=0->dW q.ax=true)/\(q.end_≠0->q.over=false/\(q.bq+1<=q.end_/\q.end_<=t)/\q.aL=[]/\(q.kind=1->dW q.ax=false)/\(q.kind≠1->q.az.length=q.keys.length)):=by
  unfold mz;by_cases he:q.end_=0
  .simp[he]
  rw[if_neg he,K0];unfold na aQ;by_cases hk:q.kind=1
  .simp[hk,he,and_assoc]
  simp[hk,he,and_assoc];omega
 unfold eY ko nb;simp only[Bool.and_eq_true];rw[Lo,e1,e2,e3,e4];constructor
 .rintro⟨⟨⟨⟨⟨⟨⟨⟨⟨⟨a1,a2⟩,a3⟩,a4⟩,a5⟩,a6⟩,a7⟩,a8⟩,⟨⟨a9,tq,xX⟩,EI⟩,EJ⟩,UQ,UR⟩,US,UT⟩;simp only[aQ,Bool.and_eq_true,decide_eq_true_eq] at a2 a4 a7;exact⟨a1,a2,a3,a4,a5,a6,a7,a8,a9,tq,xX,EI,EJ,UQ,UR,US,UT⟩
 intro h;simp only[aQ,Bool.and_eq_true,decide_eq_true_eq];exact⟨⟨⟨⟨⟨⟨⟨⟨⟨⟨h.aA,h.num⟩,h.keys⟩,h.val⟩,h.ctx⟩,h.aL⟩,h.bq⟩,h.fits⟩,⟨⟨h.has,h.sorted,h.cH⟩,h.vI⟩,h.full⟩,h.put,h.read⟩,h.open_,h.ended⟩
structure cr (w:aJ):Prop where
 time:0<=w.time
 aC:w.aC.length=4
 site:∀i,i<4->(ab w.aC i).site=(i:Int)/\bA (ab w.aC i)
 au:w.au.length<=60
 words:∀m∈w.au,bQ m=true
 seen:w.seen.length=2
 od:∀l∈w.seen,bP l=true
 calls:iI w.calls w.time=true
def tu {l:List Call} {t:Int}:iI l t=true↔l.length<=20/\∀i,i<l.length->dQ (ab l i) t/\(i=0\/(ab l (i-1)).bq<(ab l i).bq)/\(ab l i).num=fT l (i+1) (ab l i).aA/\∀j,j<i->kq (ab l j) (ab l i)=false:=by
 unfold iI kS vA;rw[Bool.and_eq_true,iR,decide_eq_true_eq];constructor
 .rintro⟨h,hl⟩;refine⟨hl,λi hi=>?_⟩;have:=h i hi;simp only[Bool.and_eq_true,Bool.or_eq_true,decide_eq_true_eq,beq_iff_eq,iR] at this;exact⟨pG.1 this.1.1.1,this.1.1.2,this.1.2,λj hj=>by simpa using this.2 j hj⟩
 rintro⟨hl,h⟩;refine⟨λi hi=>?_,hl⟩;obtain⟨a1,a2,a3,a4⟩:=h i hi;simp only[Bool.and_eq_true,Bool.or_eq_true,decide_eq_true_eq,beq_iff_eq,iR];exact⟨⟨⟨pG.2 a1,a2⟩,a3⟩,λj hj=>by rw[a4 j hj];rfl⟩
def cr.call {w:aJ} (h:cr w) {i:Nat} (hi:i<w.calls.length):dQ (ab w.calls i) w.time:=((tu.1 h.calls).2 i hi).1
def Lp (s:Server) (v:aD):(((ab s.aN (gS v.key).toNat).eH !=1)||!AG s v)=!j5 s v:=by
 unfold j5 eB;simp only[bne];cases((ab s.aN (gS v.key).toNat).eH==1)<;>simp
def UU {s u u2:Server} {g2:Bool} {i:Nat} (hu:dZ u) (mE:ig u=ig s) (AP:u.bn=s.bn) (hf:g2=false->u=u2/\i<=u.waits.length/\(u.ar.length<80->∀j,j<i->j5 u (ab u.waits j)=false))
 (ht:g2=true->0<=eK u/\u2=lO u (eK u).toNat) (hb:u2.waits.length<=i\/g2=true):dZ u2/\ig u2=ig s/\(g2=false->eK u2<0)/\u2.bn=s.bn:=by
 cases g2 with
 |true=>
  obtain⟨h1,rfl⟩:=ht rfl
  exact⟨hu.vG h1,by rw[<-Lc h1,mE],(λe=>by cases e),AP⟩
 |false=>
  obtain⟨rfl,h1,h2⟩:=hf rfl
  have h3:u.waits.length<=i:=hb.resolve_right bt
  exact⟨hu,mE,λ_=>UJ λnd j hj=>h2 nd j om,AP⟩
def UW {u u2:Server} {g2:Bool} {i:Nat} (hf:g2=false->u=u2/\i<=u.waits.length/\(u.ar.length<80->∀j,j<i->j5 u (ab u.waits j)=false))
 (ht:g2=true->0<=eK u/\u2=lO u (eK u).toNat):2*u2.waits.length+g2.toNat<2*u.waits.length+true.toNat:=by
 cases g2 with
 |true=>
  obtain⟨h1,rfl⟩:=ht rfl
  have:=(xO h1).1
  rw[Ew this];simp;omega
 |false=>
  obtain⟨rfl,h1,h2⟩:=hf rfl
  simp
def UX {s:Server} (h:dZ s) {i:Nat} (hi:i<s.waits.length) (hn:fW s.ar (ab s.waits i)=false):80<=s.ar.length:=by
 have h1:=gP h.waits _ (bB hi);have h2:=h.apart _ (bB hi);unfold fW at hn;rw[h1] at hn;simp only[Bool.true_and,Bool.and_eq_false_iff,decide_eq_false_iff_not] at hn;rcases hn with hn|hn
 .exact absurd h2 hn
 omega
def Lq (s:Server) (m:aw):(!cQ m.aY||(ct m.aY==ct s.site)||((m.ar.length:Int) !=1)||!fw s (ab m.ar 0).key||(ct (ab m.ar 0).ax.site==ct s.site))=!rT s m:=by
 have e:((m.ar.length:Int) !=1)=!decide (m.ar.length=1):=by rw[Bool.eq_iff_iff];simp;omega
 unfold rT;rw[e];simp[bne]
def xZ {α:Type} {o:Option α} (h:(!o.isSome)=true):o=none:=by cases o;rfl;cases h
def Lr (s:Server) (v:aD) (h1:bY s.ar=true) (h2:bY s.waits=true):(!(jk s.ar ⟨v.key,v.ax⟩).isSome&&!(jk s.waits ⟨v.key,v.ax⟩).isSome)=decide (placeOf s.ar v.bG<0/\placeOf s.waits v.bG<0):=by
 rw[vB h1,vB h2,Bool.eq_iff_iff];show _↔decide (placeOf s.ar ⟨v.key,v.ax⟩<0/\placeOf s.waits ⟨v.key,v.ax⟩<0)=true;simp
def Ls {s:Server} {m:aw} (h:(aQ m.aY 10 11&&decide (1<=m.call)&&fw s m.key)=true) (hv:(jT s m.key (m.aY-10) m.call).isSome=true):gX s m=(s,[kW s m ((jT s m.key (m.aY-10) m.call).getD default).ax]):=by
 obtain⟨v,hv⟩:=Option.isSome_iff_exists.1 hv;unfold gX;rw[h,hv];rfl
end Go.Proofs.YtldbakcpcfdlaaaGreat
