/- Part 11: contracts of functions, plain facts. -/
import Derived.Test.YtldbakcpcfdlaaaGreatA10
set_option linter.all false
set_option maxRecDepth 100000
set_option maxHeartbeats 4000000
namespace Go.Proofs.YtldbakcpcfdlaaaGreat
open Go Go.RowKit Tryz
attribute [local irreducible] wpList Code.wp Ok
def ij (n a b:Int):
 Fn prog 65 [AV.int n,AV.int a,AV.int b] (AV.bool (aQ n a b)):=by
 refine Fn.go 15 func65 ntmps65 (λW I a U=>?_);refine td λI a w U=>?_;refine U.rt ?_;rfl
def rV (n:Int):
 Fn prog 139 [AV.int n] (AV.bool (cQ n)):=by
 refine Fn.go 5 func139 ntmps139 (λW I a U=>?_);refine aF λI a w U=>?_;refine U.o (.cl (ij ..)) λU=>?_;refine bk ?_;rfl
def x3 (n:Int):
 Fn prog 146 [AV.int n] (AV.bool (cY n)):=by
 refine Fn.go 5 func146 ntmps146 (λW I a U=>?_);refine aF λI a w U=>?_;refine U.o (.cl (ij ..)) λU=>?_;refine bk ?_;rfl
def ya (n:Int):
 Fn prog 225 [AV.int n] (AV.bool (eN n)):=by
 refine Fn.go 5 func225 ntmps225 (λW I a U=>?_);refine aF λI a w U=>?_;refine U.o (.cl (ij ..)) λU=>?_;refine bk ?_;rfl
def vJ (s:cA):
 Fn prog 149 [s.av] (AV.bool (c7 s)):=by
 refine Fn.go 11 func149 ntmps149 (λW I a U=>?_);refine bj λI a w U=>?_;refine U.o (.cl (ij ..)) λU=>?_;refine bc λI a w U=>?_;refine U.q .T (.cl (rV ..)) λU=>?_;refine dh ?_;rfl
def yb (n:Int):
 Fn prog 181 [AV.int n] (AV.int (ct n)):=by
 refine Fn.go 8 func181 ntmps181 (λW I a U=>?_);refine aF λI a w U=>?_;refine U.o (.c1 (rV ..)) λU=>?_;refine ao λI a w U=>?_;refine cz (λae=>?_) λae=>?_
 .refine bk ?_;exact eW (by simp[ct,ae])
 refine bw λI a w U=>?_;refine U.o (uV .tt .c (λ_=>by simp[cQ,aQ] at ae;omega)) λU=>?_;refine bk ?_;exact eW (by simp[ct,ae])
def yc (l:List an):
 Fn prog 72 [bf l] (AV.bool (bP l)):=by
 refine Fn.go 27 func72 ntmps72 (λW I a U=>?_);refine cn λI a w U=>?_;refine St.lo (σ:=Nat×Int) (run 2 2 (5::(run 19 8 []))) ⟨λ⟨k,last⟩=>[(8,AV.int k),(3,AV.int last)],λ⟨k,last⟩=>[],λ⟨k,last⟩=>k<=l.length/\bP l=dm last (l.drop k)/\-1<=last/\last<=5⟩ (λ⟨k,last⟩=>l.length-k) (0,-1) U ?aH ?bx;case aH=>exact⟨by simp,rfl,by omega,by omega⟩
 rintro⟨k,last⟩ I a w al U;obtain⟨hk,hd,hl1,pb⟩:=al;have hle:=U.eh (t:=0) rfl;refine ao λI a w U=>?_;refine cz (λae=>?_) λae=>?_
 .refine aF λI a w U=>?_;refine U.alloc rfl cx ez λb5 I a w U=>?_;refine ao λI a w U=>?_;obtain⟨I,U⟩:=U.fb 0 5;refine bj λI a w U=>?_;refine U.o (.cl (ij ..)) λU=>?_;refine bj λI a w U=>?_;refine U.q .F (.cl (vJ ..)) λU=>?_;refine aq λI a w U=>?_;refine cz (λah=>?_) λah=>?_
  .refine bk ?_;exact bI (by rw[hd,j0 ae];simp only[dm];rcases ah with h|h<;>simp[h])
  refine cn λI a w U=>?_;have U:=U.drop 0;exact U.ag (k+1,(ab l k).key) (by(rw[hd,j0 ae];simp[dm,ah,aQ];simp[aQ] at ah;omega))
 refine zt ?_;refine bk ?_;exact bI (by rw[hd,List.drop_eq_nil_of_le om];rfl)
def EN (v:aD):
 Fn prog 156 [v.av] (AV.bool (eD v)):=by
 refine Fn.go 54 func156 ntmps156 (λW I a U=>?_);have Ee:v.aS.length<=9223372036854775807:=by
  obtain⟨cs,_,hc⟩:=U.env 0 _ rfl;obtain⟨u,_,hu,_⟩:=hc.get (i:=6) rfl;exact xd hu
 refine bj λI a w U=>?_;refine U.o (.c1 (x3 ..)) λU=>?_;refine bj λI a w U=>?_;refine U.q .F (.cl (vJ ..)) λU=>?_;refine bK λI a w U=>?_;refine U.q .F (.cl (ij ..)) λU=>?_;refine bK λI a w U=>?_;refine U.q .F (.cl (ya ..)) λU=>?_;refine bK λI a w U=>?_;refine U.q .F (.cl (ij ..)) λU=>?_;refine bK λI a w U=>?_;refine U.q .F (.cl (yc ..)) λU=>?_;refine aq λI a w U=>?_;refine U.cd (λae=>?_) λae=>?_
 .rw[Aw v] at ae;replace ae:=nt ae;refine bk ?_;exact bI (by rw[vx,ae];rfl)
 rw[Aw v] at ae;replace ae:=nf ae;refine aV λI a w U=>?_;refine St.lo (σ:=Nat) (2::(4::(run 12 42 []))) ⟨λk=>[(42,AV.int k)],λk=>[],λk=>k<=v.aS.length/\∀i,i<k->(λi=>decide ((ab v.aS i).ax.time<v.ax.time)) i=true⟩ (λk=>v.aS.length-k) 0 U ?aH ?bx;case aH=>exact⟨by simp,λi hi=>by omega⟩
 rintro k I a w al U;obtain⟨hk,aU⟩:=al;have hle:v.aS.length<=9223372036854775807:=Ee;refine ao λI a w U=>?_;refine cz (λah=>?_) λah=>?_
 .refine aF λI a w U=>?_;refine U.alloc rfl cx ez λb4 I a w U=>?_;refine ao λI a w U=>?_;obtain⟨I,U⟩:=U.fb 0 4;refine ib λI a w U=>?_;refine U.cd (λaj=>?_) λaj=>?_
  .rw[Av] at aj;replace aj:=nt aj;refine bk ?_;exact bI (by rw[vx,ae];exact(eX (f:=(λi=>decide ((ab v.aS i).ax.time<v.ax.time))) ah aj).symm)
  rw[Av] at aj;replace aj:=nf aj;refine aq λI a w U=>?_;have U:=U.drop 0;exact U.ag (k+1) (⟨by omega,fO aU aj⟩)
 refine zt ?_;refine bk ?_;exact bI (by rw[vx,ae];exact(eO aU om).symm)
def mF (v:aD):
 Fn prog 132 [v.av] (v.bG.av):=by
 refine Fn.go 8 func132 ntmps132 (λW I a U=>?_);refine bw λI a w U=>?_;refine U.alloc rfl cx ez λb2 I a w U=>?_;refine bj λI a w U=>?_;refine U.o (.bd ez (.k (.t aT.nil))) λU=>?_;refine ao λI a w U=>?_;refine U.ret rfl (.cons (.sx 0) aX.nil) ?_;rfl
def UY (n:Int):eN (n-10)=aQ n 10 11:=by
 simp only[eN,aQ];rw[Bool.eq_iff_iff];simp;omega
def EO (n:Int):
 Fn prog 222 [AV.int n] (AV.int (gS n)):=by
 refine Fn.go 9 func222 ntmps222 (λW I a U=>?_);refine aF λI a w U=>?_;refine U.o (.c1 (x3 ..)) λU=>?_;refine ao λI a w U=>?_;refine cz (λae=>?_) λae=>?_
 .refine bk ?_;exact eW (by simp[gS,ae])
 refine bw λI a w U=>?_;refine U.o (mS .tt .c (λ_=>by simp[cY,aQ] at ae;omega)) λU=>?_;refine U.o (uV .tt .c (λ_=>by simp[cY,aQ] at ae;omega)) λU=>?_;refine bk ?_;exact eW (by simp[gS,ae])
def UZ (l:List (Call)) (p:(Call)->Bool) (fv:AV) (hf:∀x:Call,x∈l->jZ prog fv [x.av] (AV.bool (p x))):
 Fn prog 93 [fN l,fv] (AV.int (di p l)):=by
 refine Fn.go 19 func93 ntmps93 (λW I a U=>?_);have hle:=U.eh (t:=0) rfl;refine aV λI a w U=>?_;refine St.lo (σ:=Nat) (run 2 4 (run 11 8 [])) ⟨λk=>[(8,AV.int k)],λk=>[],λk=>k<=l.length/\∀i,i<k->p (ab l i)=false⟩ (λk=>l.length-k) 0 U ?aH ?bx;case aH=>exact⟨Nat.zero_le _,λi hi=>by omega⟩
 rintro k I a w al U;obtain⟨hk,aU⟩:=al;refine ao λI a w U=>?_;refine cz (λae=>?_) λae=>?_
 .refine fm λI a w U=>?_;refine U.o (uW (hf _ (bB ae)) .tt (ai .tt aB)) λU=>?_;refine zt ?_;refine U.cd (λah=>?_) λah=>?_
  .refine dh ?_;exact eW (lK ae aU ah).symm
  refine aq λI a w U=>?_;exact U.ag (k+1) (⟨ae,λi h1=>by rcases Nat.lt_succ_iff_lt_or_eq.1 h1 with h|h;exact aU i h;rw[h];exact ah⟩)
 refine zt ?_;refine bk ?_;exact eW (kR om aU).symm
def Lt (l:List (Answer)) (p:(Answer)->Bool) (fv:AV) (hf:∀x:Answer,x∈l->jZ prog fv [x.av] (AV.bool (p x))):
 Fn prog 256 [nL l,fv] (AV.int (di p l)):=by
 refine Fn.go 19 func256 ntmps256 (λW I a U=>?_);have hle:=U.eh (t:=0) rfl;refine aV λI a w U=>?_;refine St.lo (σ:=Nat) (run 2 4 (run 11 8 [])) ⟨λk=>[(8,AV.int k)],λk=>[],λk=>k<=l.length/\∀i,i<k->p (ab l i)=false⟩ (λk=>l.length-k) 0 U ?aH ?bx;case aH=>exact⟨Nat.zero_le _,λi hi=>by omega⟩
 rintro k I a w al U;obtain⟨hk,aU⟩:=al;refine ao λI a w U=>?_;refine cz (λae=>?_) λae=>?_
 .refine fm λI a w U=>?_;refine U.o (uW (hf _ (bB ae)) .tt (ai .tt aB)) λU=>?_;refine zt ?_;refine U.cd (λah=>?_) λah=>?_
  .refine dh ?_;exact eW (lK ae aU ah).symm
  refine aq λI a w U=>?_;exact U.ag (k+1) (⟨ae,λi h1=>by rcases Nat.lt_succ_iff_lt_or_eq.1 h1 with h|h;exact aU i h;rw[h];exact ah⟩)
 refine zt ?_;refine bk ?_;exact eW (kR om aU).symm
def EP (s:Server) (key:Int) (hk:cY key=true) (hl:s.aN.length=3):
 Fn prog 141 [s.av,AV.int key] (AV.int (eB s key)):=by
 refine Fn.go 12 func141 ntmps141 (λW I a U=>?_);have hr:=nU hk;refine aq λI a w U=>?_;refine U.dk ?_;refine dw ?_;refine .o (.c1 (EO ..)) ?_;refine dq ?_;refine .nil ?_;intro I a w U;refine zt ?_;refine U.rt ?_;rfl
def ER (s:Server) (v:aD):
 Fn prog 142 [s.av,v.av] (AV.bool (ct v.ax.site !=ct s.site)):=by
 refine Fn.go 13 func142 ntmps142 (λW I a U=>?_);refine aM λI a w U=>?_;refine U.dk ?_;refine dw ?_;refine .o (.c1 (yb ..)) ?_;refine cg ?_;refine .o (.c1 (yb ..)) ?_;refine cg ?_;refine .nil ?_;intro I a w U;refine zt ?_;refine U.rt ?_;rfl
def Lu (c:Call) (k:Nat):(decide (cE c (ab c.aL k).key<0)||!my (ab c.az (cE c (ab c.aL k).key).toNat) (ab c.aL k).ax)=!nY c k:=by
 unfold nY;have e:decide (cE c (ab c.aL k).key<0)=!decide (0<=cE c (ab c.aL k).key):=by rw[Bool.eq_iff_iff];simp
 rw[e];simp
def Lv (c:Call) (time:Int):(!eN c.aA||!aQ c.num 1 99||!ie c||!aQ c.val 0 9999||!bP c.ctx||!bP c.aL||!aQ c.bq 1 time||!jO c.ax||!nb c)=!ko c time:=by simp[ko]
def yd {α:Type} [Inhabited α] (p:α->Bool) (l:List α):(!hasB p l)=cT l.length λi=>!p (ab l i):=by
 rw[Bool.eq_iff_iff,iR];constructor
 .intro h i hi;simp only[Bool.not_eq_true'] at h⊢;cases hp:p (ab l i)
  .rfl
  rw[AA (bB hi) hp] at h;cases h
 intro h;simp only[Bool.not_eq_true'];cases hh:hasB p l
 .rfl
 obtain⟨x,hx,hp⟩:=Em hh;obtain⟨k,hk,rfl⟩:=iz hx;have:=h k hk;rw[hp] at this;cases this
def Lw:∀{l:List aD} {v:aD} {n:Nat},n<=l.length->(∀i,i<n->ga (ab l i) v=true)->(n<l.length->ga (ab l n) v=false)->l.take n++v::l.drop n=ej l v
 |[],v,n,h,_,_=>by have:n=0:=by simpa using h
                   subst this;rfl
 |x::r,v,0,_,_,h2=>by
  have:=h2 bt;have e:ga x v=false:=this;simp[ej,e]
 |x::r,v,n+1,h,h1,h2=>by
  have e:ga x v=true:=h1 0 om;have ih:=Lw (l:=r) (v:=v) (n:=n) (by simpa using h) (λi hi=>h1 (i+1) om) (λhl=>h2 (by simpa using hl));simp[ej,e,ih]
def Lx (l:List an) (v:an):(ek l v).length<=l.length+1:=by
 unfold ek;split
 .omega
 rw[Lb];exact Nat.le_refl _
def mG (s:Server) (m:aw):aw:={bW with kind:=10,aY:=s.site,to:=m.aY,slot:=m.slot,bU:=m.bU}
def ld (s:Server) (slot:Int):Bool:=s.up&&aQ slot 0 2&&((ab s.aN slot.toNat).eH==1)&&decide ((ab s.aN slot.toNat).bU<9999)
def oe (s:Server) (slot:Int):Server:={s with aN:=s.aN.set slot.toNat ⟨(ab s.aN slot.toNat).bU+1,2⟩}
def dT (s:Server) (slot:Int):Server×aw×Bool:=if ld s slot then(oe s slot,gj (oe s slot) slot,true) else(s,bW,false)
def og (s:Server):Server:={s with up:=false,bn:=[]}
def oh (s:Server):Server:={s with up:=true}
def df:List Answer->Answer->List Answer
 |[],a=>[a]
 |e::r,a=>if a.key<e.key then a::e::r else e::df r a
def Ly (x:Answer) (key:Int):
 Fn prog 322 [x.av,AV.ptr [AV.int key]] (AV.bool (qD key x)):=by
 refine Fn.go 8 func322 ntmps322 (λW I a U=>?_);refine ib λI a w U=>?_;refine U.rt ?_;rfl
def Lz (q:Call) (key:Int):
 Fn prog 284 [q.av,AV.int key] (AV.int (cE q key)):=by
 refine Fn.go 9 func284 ntmps284 (λW I a U=>?_);refine bw λI a w U=>?_;refine U.o (uQ .tt (by first|exact fi rfl|exact dD|exact fB|exact fE)) λU=>?_;refine bc λI a w U=>?_;refine U.o (mb (ai .tt aB)) λU=>?_;refine U.o (.cl (Lt q.az (qD key) _ (λv _=>Fn.val (Ly v key)))) λU=>?_;refine bk ?_;rfl
def LA (q:Call):(((q.kind==1)&&decide (0<(q.az.length:Int)+q.aL.length))||(!(q.kind==1)&&((q.val !=0)||!dW q.ax)))=!vz q:=by simp[vz]
def LB {α:Type} [Inhabited α] {l:List α} {j k:Nat} (h:j<k):ab (l.take k) j=ab l j:=by
 unfold ab;simp[List.getD_eq_getElem?_getD,List.getElem?_take,h]
def vL (q:Call):Prop:=q.keys.length<=1048576/\q.ctx.length<=1048576/\q.az.length<=1048576/\(∀y∈q.az,y.bF.aS.length<=1048576)/\q.aL.length<=1048576
def Server.vM (s:Server) (v:Value):AV:=.agg [.int s.site,.bool s.up,.val v,bV s.ar,bV s.waits,bf s.aE,bf s.bn]
def dZ.LC {s:Server} (h:dZ s) {d:an} (hl:s.bn.length<80):dZ {s with bn:=ek s.bn d}:=⟨h.aN,h.ar,h.waits,h.apart,by have:=Lx s.bn d;show(ek s.bn d).length<=80;omega⟩
def AQ {m:aw} (h:bQ m=true):0<=m.slot/\m.slot<3:=by
 simp only[bQ,Bool.and_eq_true,aQ,decide_eq_true_eq] at h;omega
def bA.kV:∀(n:Nat) {s:Server},bA s->bA (kV n s)
 |0,_,h=>h
 |n+1,s,h=>by
  unfold Go.Proofs.YtldbakcpcfdlaaaGreat.kV;split
  .exact h
  exact bA.kV n (h.vG om)
def U0 {s:Server} {slot:Int} {y:cI} {key:Int} (h:gS key≠slot) (h0:0<=slot) (hk:cY key=true):eB {s with aN:=s.aN.set slot.toNat y} key=eB s key:=by
 have hr:=nU hk;unfold eB ab;simp only[List.getD_eq_getElem?_getD];rw[List.getElem?_set_ne om]
def U1 {s:Server} {slot:Int} {y:cI} {key:Int} (h:gS key=slot) (h0:0<=slot) (h3:slot<s.aN.length):eB {s with aN:=s.aN.set slot.toNat y} key=y.eH:=by
 unfold eB ab;simp only[List.getD_eq_getElem?_getD,h];rw[List.getElem?_set_self om];rfl
def bA.LD {s:Server} (h:bA s) {slot:Int} {y:cI} (h0:0<=slot) (hy:nS y=true) (hv:∀v∈s.ar,gS v.key=slot->y.eH≠0) (hw:∀v∈s.waits,gS v.key=slot->y.eH≠0) (h3:slot<3):bA {s with aN:=s.aN.set slot.toNat y}:=by
 have key:∀v:aD,eD v=true->eB s v.key≠0->(gS v.key=slot->y.eH≠0)->eB {s with aN:=s.aN.set slot.toNat y} v.key≠0:=λv U2 h1 h2=>by
  by_cases U:gS v.key=slot
  .rw[U1 U h0 (by rw[h.aN];omega)];exact h2 U
  rw[U0 U h0 (nT U2)];exact h1
 refine⟨h.site,by show(s.aN.set _ _).length=3;rw[List.length_set];exact h.aN,h.ar,h.waits,h.aE,h.bn,h.up,λx hx=>?_,λv mH=>key v (gP h.ar v mH) (h.here v mH) (hv v mH),λv mH=>key v (gP h.waits v mH) (h.ng v mH) (hw v mH),h.nh,h.apart,h.ni⟩;rcases List.mem_or_eq_of_mem_set hx with hx|rfl
 .exact h.cH x hx
 exact hy
def U3 {s:Server} (h:bA s):bA (oh s):=⟨h.site,h.aN,h.ar,h.waits,h.aE,h.bn,λe=>(by cases e),h.cH,h.here,h.ng,h.nh,h.apart,h.ni⟩
def U4 {s:Server} (h:bA s):bA (og s):=⟨h.site,h.aN,h.ar,h.waits,h.aE,rfl,λ_=>rfl,h.cH,h.here,h.ng,h.nh,h.apart,h.ni⟩
def ye {s:Server} {slot:Int} (h:ld s slot=true):s.up=true/\0<=slot/\slot<=2/\(ab s.aN slot.toNat).eH=1/\(ab s.aN slot.toNat).bU<9999:=by
 unfold ld aQ at h;simp only[Bool.and_eq_true,decide_eq_true_eq] at h;exact⟨h.1.1.1,h.1.1.2.1,h.1.1.2.2,by simpa using h.1.2,h.2⟩
def tv:∀{l:List Answer} {a x:Answer},x∈df l a↔x=a\/x∈l
 |[],a,x=>by simp[df]
 |e::r,a,x=>by
  unfold df;split
  .simp
  rw[List.mem_cons,tv,List.mem_cons];constructor
  .rintro(h|h|h)<;>simp[h]
  rintro(h|h|h)<;>simp[h]
def tw:∀(l:List Answer) (a:Answer),(df l a).length=l.length+1
 |[],a=>rfl
 |e::r,a=>by unfold df;split<;>simp[tw r a]
def ES:∀{l:List Answer} {a:Answer},(l.Pairwise λa b=>fS a b=true)->(∀x∈l,x.key≠a.key)->(df l a).Pairwise λa b=>fS a b=true
 |[],a,_,_=>by simp[df]
 |e::r,a,h,hn=>by
  unfold df;rw[List.pairwise_cons] at h;have he:=hn e bt;split
  .rename_i hl;rw[List.pairwise_cons];refine⟨λx hx=>?_,List.pairwise_cons.2 h⟩;rcases List.mem_cons.1 hx with rfl|hx
   .unfold fS;rw[decide_eq_true_eq];exact hl
   have:=h.1 x hx;unfold fS at*;rw[decide_eq_true_eq] at*;omega
  rename_i hl;rw[List.pairwise_cons];refine⟨λx hx=>?_,ES h.2 λx hx=>hn x (by simp[hx])⟩;rcases tv.1 hx with rfl|hx
  .unfold fS;rw[decide_eq_true_eq];omega
  exact h.1 x hx
def vN (s:Server) (key:Int) (hl:s.aN.length=3):
 Fn prog 291 [s.av,AV.int key] (AV.bool (fw s key)):=by
 refine Fn.go 13 func291 ntmps291 (λW I a U=>?_);refine bc λI a w U=>?_;refine U.o (.c1 (x3 ..)) λU=>?_;refine bc λI a w U=>?_;refine U.q .T (Ku (λhg=>EP s key hg hl) (ai .ag (ai .ag aB))) λU=>?_;refine qx ?_;rfl
def LF (l:List an) (slot:Int) (h:l.length<=1048576):
 Fn prog 326 [bf l,AV.int slot] (AV.c6 [bf (l.filter (gi slot)),bf (l.filter (λd=>!gi slot d))]):=by
 refine Fn.go 32 func326 ntmps326 (λW I a U=>?_);have U:=U.fC (sz:=3) 125;have U:=U.fC (sz:=3) 125;refine ib λI a w U=>?_;refine St.lo (σ:=Nat×Value×Value) (run 2 6 (9::(run 18 12 []))) ⟨λ⟨k,u,v⟩=>[(12,AV.int k),(6,AV.val u),(7,AV.val v)],λ⟨k,u,v⟩=>[Own.row u 125 3 (((l.take k).filter (gi slot)).map an.cells),Own.row v 125 3 (((l.take k).filter (λd=>!gi slot d)).map an.cells)],λ⟨k,u,v⟩=>k<=l.length⟩ (λ⟨k,u,v⟩=>l.length-k) (0,.slice none 0 0,.slice none 0 0) U ?aH ?bx;case aH=>exact Nat.zero_le _
 rintro⟨k,u,v⟩ I a w al U;have hk:k<=l.length:=al;have Le:=pF (gi slot) l k;have Lf:=pF (λd=>!gi slot d) l k;dsimp only at U;refine ao λI a w U=>?_;refine cz (λae=>?_) λae=>?_
 .refine aF λI a w U=>?_;refine U.alloc rfl cx ez λb9 I a w U=>?_;refine ao λI a w U=>?_;obtain⟨I,U⟩:=U.fb 2 9;refine aF λI a w U=>?_;refine U.o (.c1 (EO ..)) λU=>?_;refine aq λI a w U=>?_;refine U.cd (λah=>?_) λah=>?_
  .change(gi slot) (ab l k)=true at ah;refine aF λI a w U=>?_;refine U.o (.li [(ab l k).cells] eJ (.u .nil)) λU=>?_;refine U.ap 0 λtx a w U=>?_;rw[bN,<-lP (p:=(gi slot)) ae ah,show(l.take k).filter (λd=>!gi slot d)=(l.take (k+1)).filter (λd=>!gi slot d) from(lQ ae (by show(!_)=false;rw[ah];rfl)).symm] at U;refine aM λI a w U=>?_;have U:=U.drop 2;exact U.ag (k+1,tx,v) (ae)
  change(gi slot) (ab l k)=false at ah;refine aF λI a w U=>?_;refine U.o (.li [(ab l k).cells] eJ (.u .nil)) λU=>?_;refine U.ap 1 λyf a w U=>?_;rw[bN,<-lP (p:=(λd=>!gi slot d)) ae (by show(!_)=true;rw[ah];rfl),show(l.take k).filter (gi slot)=(l.take (k+1)).filter (gi slot) from(lQ ae ah).symm] at U;refine aM λI a w U=>?_;have U:=U.drop 2;exact U.ag (k+1,u,yf) (ae)
 refine zt ?_;refine aV λI a w U=>?_;obtain⟨I,U⟩:=U.fr 0 4;obtain⟨I,U⟩:=U.fr 1 5;refine U.rt ?_;exact(by rw[List.take_of_length_le om];rfl)
def vP (s:Server) (h:dZ s):
 Fn prog 337 [s.av] ((gW s).av):=by
 refine Fn.go 91 func337 ntmps337 (λW I a U=>?_);refine sr<|U.box rfl .tt λb1 I a w U=>U.alloc rfl ck c9 λb2 I a w U=>?_;refine ao λI a w U=>?_;refine St.lo (σ:=Bool×Server) (run 5 3 (run 55 10 [])) ⟨λ⟨g,u⟩=>[(3,AV.bool g)],λ⟨g,u⟩=>[Own.box b1 95 u.cells,Own.box b2 95 [AV.val (.int .i64 0),AV.val (.bool false),AV.rows 2 [],AV.rows 7 [],AV.rows 7 [],AV.rows 3 [],AV.rows 3 []]],λ⟨g,u⟩=>dZ u/\ig u=ig s/\(g=false->eK u<0)/\u.bn=s.bn⟩ (λ⟨g,u⟩=>2*u.waits.length+g.toNat) (true,s) U ?aH ?bx;case aH=>exact⟨h,rfl,(λe=>by cases e),rfl⟩
 rintro⟨g,u⟩ I a w al U;obtain⟨hu,mE,U5,AP⟩:=al;have jM:=fV hu.waits;have jX:=hu.bn;dsimp only at U;refine ao λI a w U=>?_;refine U.cd (λae=>?_) λae=>?_
 .refine aq λI a w U=>?_;refine St.lo (σ:=Nat×Bool×Server) (run 5 3 (run 54 11 [])) ⟨λ⟨i,g2,u2⟩=>[(4,AV.int i),(3,AV.bool g2)],λ⟨i,g2,u2⟩=>[Own.box b1 95 u2.cells,Own.box b2 95 [AV.val (.int .i64 0),AV.val (.bool false),AV.rows 2 [],AV.rows 7 [],AV.rows 7 [],AV.rows 3 [],AV.rows 3 []]],λ⟨i,g2,u2⟩=>(g2=false->u=u2/\i<=u.waits.length/\(u.ar.length<80->∀j,j<i->j5 u (ab u.waits j)=false))/\(g2=true->0<=eK u/\u2=lO u (eK u).toNat)⟩ (λ⟨i,g2,u2⟩=>if g2 then 0 else u.waits.length-i+1) (0,false,u) U ?dC ?iJ;case dC=>exact⟨λ_=>⟨rfl,Nat.zero_le _,λ_ j hj=>by omega⟩,λe=>by cases e⟩
  rintro⟨i,g2,u2⟩ I a w al U;obtain⟨hf,ht⟩:=al;dsimp only at U;refine m4 λI a w U=>?_;refine cz (λah=>?_) λah=>?_
  .obtain⟨hi,pH⟩:=ah;obtain⟨rfl,iG,m6⟩:=hf pH;subst pH;refine bc λI a w U=>?_;refine U.o ((by first|exact dE dA bL .tt .tt (λ_=>by exact hi)|exact eG dA bL .tt .tt (λ_=>by exact hi)|exact eM dA bL .tt .tt (λ_=>by exact hi))) λU=>?_;refine U.o .la λU=>?_;refine U.alloc rfl bL dy λb5 I a w U=>?_;refine ao λI a w U=>?_;obtain⟨I,U⟩:=U.fb 2 5;refine U.dk ?_;refine dq ?_;refine .o (.c1 (rM _)) ?_;refine .o ((by first|exact dE fq dR .tt .tt (λ_=>by have:=nU (nT (rO hu.waits hi));have:=hu.aN;omega)|exact eG fq dR .tt .tt (λ_=>by have:=nU (nT (rO hu.waits hi));have:=hu.aN;omega)|exact eM fq dR .tt .tt (λ_=>by have:=nU (nT (rO hu.waits hi));have:=hu.aN;omega))) ?_;refine gw ?_;refine .q .F (.cl (UE u (ab u.waits i) hu.ar)) ?_;refine cg ?_;refine .nil ?_;intro I a w U;refine ba ?_;refine U.cd (λaj=>?_) λaj=>?_
   .rw[Lp] at aj;replace aj:=nt aj;refine zt ?_;refine aM λI a w U=>?_;have U:=U.drop 2;exact U.ag (i+1,false,u) (⟨λ_=>⟨rfl,hi,λnd j hj=>by rcases Nat.lt_succ_iff_lt_or_eq.1 hj with h|h;exact m6 nd j h;rw[h];exact aj⟩,λe=>by cases e⟩) (hμ:=by simp;try omega)
   rw[Lp] at aj;replace aj:=nf aj;refine bc λI a w U=>?_;refine U.o (.cl (AK u.ar (ab u.waits i) hu.ar)) λU=>?_;refine iU λI a w U=>?_;refine U.cd (λaG=>?_) λaG=>?_
   .refine aM λI a w U=>?_;have U:=U.fP;refine U.db (rp 2 (([0],none)::rp 2 (([3],some (3,[57]))::([],none)::([0],none)::rp 3 [([3],some (3,[])),([],none),([0],some (0,[]))]))) aP aP rfl ?_;refine .o (qm dA bL) ?_;refine aW ?_;refine .r [0] (.lb 0) ?_;refine aW ?_;refine .o (w8 dA bL .r .tt (λ_=>by simp;omega)) ?_;refine aI.xt 3 rfl rfl dA bL rfl .tt .r (by have:=fV hu.waits;simp;omega) ?_;refine aW ?_;refine .r [0] (.lb 0) ?_;refine cg ?_;refine .o (w7 dA bL .r .tt (λ_=>by simp;omega)) ?_;refine aI.zZ 3 rfl rfl dA bL rfl .r (by have:=fV hu.waits;simp;omega) ?_;refine aW ?_;refine aI.de (x:=AV.any) 0 (λF W0 I0 I γ a w Q U kk=>U.s1 0 λU=>kk _ _ _ U) ?_;refine .nil ?_;intro I a w U;rw[<-List.map_take,<-List.map_drop,<-List.map_append,if_pos aG,show((i:Int)+1).toNat=i+1 by omega,Int.toNat_natCast] at U;change St _ _ [Own.box b1 95 (lO u i).cells,Own.box b2 95 [AV.val (.int .i64 0),AV.val (.bool false),AV.rows 2 [],AV.rows 7 [],AV.rows 7 [],AV.rows 3 [],AV.rows 3 []],Own.gone,Own.gone] _ _ _ at U;refine aV λI a w U=>?_;have U:=U.drop 2;exact U.ag (i+1,true,lO u i) (⟨(λe=>by cases e),λ_=>by have e:=UI (qJ aG).2.2 hi (m6 (qJ aG).2.2) aj;rw[e];exact⟨by omega,by simp⟩⟩) (hμ:=by simp;try omega)
   refine aM λI a w U=>?_;have U:=U.drop 2;exact U.ag (i+1,false,u) (⟨λ_=>⟨rfl,hi,λnd=>by have:=UX hu hi aG;omega⟩,λe=>by cases e⟩) (hμ:=by simp;try omega)
  rw[Nat.not_lt] at ah;refine zt ?_;exact U.ag (g2,u2) (UU hu mE AP hf ht ah) (hμ:=by subst ae;exact UW hf ht)
 refine zt ?_;refine U.l0 λU6 I a w U=>?_;refine aq λI a w U=>?_;refine St.lo (σ:=Nat×Value) (run 2 8 (run 22 66 [])) ⟨λ⟨k,v⟩=>[(9,AV.int k),(8,AV.val v)],λ⟨k,v⟩=>[Own.box b1 95 u.cells,Own.box b2 95 [AV.val (.int .i64 0),AV.val (.bool false),AV.rows 2 [],AV.rows 7 [],AV.rows 7 [],AV.rows 3 [],AV.rows 3 []],Own.row v 125 3 (((u.bn.take k).filter (gV u)).map an.cells)],λ⟨k,v⟩=>k<=u.bn.length⟩ (λ⟨k,v⟩=>u.bn.length-k) (0,.slice (some ⟨U6,0,none⟩) 0 0) U ?fU ?kT;case fU=>exact Nat.zero_le _
 rintro⟨k,v⟩ I a w al U;have hk:k<=u.bn.length:=al;dsimp only at U;refine cn λI a w U=>?_;refine cz (λaK=>?_) λaK=>?_
 .refine zt ?_;refine U.dk ?_;refine gw ?_;refine .o (.c2 (Lh ..))<|.nil ?_;intro I a w U;refine ba ?_;refine cz (λbh=>?_) λbh=>?_
  .refine dp λI a w U=>?_;refine U.o (.li [(ab u.bn k).cells] eJ (.u .nil)) λU=>?_;refine U.append 2 rfl c4 cx rfl .tt .r rfl (by have h1:=pF (gV u) u.bn k;have h2:=hu.bn;simp;omega) λET a w U=>?_;rw[bN,<-lP aK bh] at U;refine aV λI a w U=>?_;exact U.ag (k+1,ET) (aK)
  refine aM λI a w U=>?_;rw[show(u.bn.take k).filter (gV u)=(u.bn.take (k+1)).filter (gV u) from(lQ aK bh).symm] at U;exact U.ag (k+1,v) (aK)
 refine zt ?_;refine U.m λU=>?_;obtain⟨I,U⟩:=U.fr 2 88;refine aV λI a w U=>?_;have e1:gW s=AH u:=by unfold gW;rw[<-mE,Ld (U5 ae)]
 have e2:u.bn.take k=u.bn:=List.take_of_length_le om;refine U.ret rfl (.cons (.sx 1) aX.nil) ?_;exact(by rw[e1,e2];rfl)
def dL {α:Type} [Inhabited α] {f:α->List AV} {l:List α} {i:Nat} (h:i<l.length):(l.map f)[i]?=some (f (ab l i)):=by rw[List.getElem?_map,Jf h];rfl
def EU {α:Type}:∀{l:List (List α)} {sz:Nat},(∀r∈l,r.length=sz)->∀{i:Nat},l.flatten.drop (i*sz)=(l.drop i).flatten
 |l,sz,h,0=>by simp
 |[],sz,h,i+1=>by simp
 |x::r,sz,h,i+1=>by
  have hx:x.length=sz:=h x bt;have ih:=EU (l:=r) (sz:=sz) (λy hy=>h y (by simp[hy])) (i:=i);rw[List.flatten_cons,List.drop_succ_cons,<-ih,show(i+1)*sz=x.length+i*sz by rw[hx,Nat.succ_mul,Nat.add_comm],List.drop_append];simp
def U7 (v:Value) (l:List (List AV)) (i:Nat) (hi:i<l.length) (hl:l.length<=1048576) (dP:∀r∈l,r.length=7):
 bJ prog 364 [AV.val v,AV.int i,AV.int ((i:Int)+1)] [Own.row v 54 7 l] (λ_:Value=>True) (λu=>[Own.row u 54 7 (l.take i++l.drop (i+1))]) AV.val:=by
 refine bJ.intro 33 func364 rfl ntmps364 rfl aP (λW I a U=>?_);obtain⟨q,cap,rfl,kD⟩:=U.xv 0 rfl;refine dp λI a w U=>?_;refine U.o (Kv (lo:=i) (hi:=i+1) (mx:=l.length) dA bL .tt .tt .tt .tt rfl om rfl om om om) λU=>?_;refine aM λI a w U=>?_;refine U.cd (λae=>?_) λae=>?_
 .exfalso;simp only[B] at ae;omega;skip
 refine aM λI a w U=>?_;have bH:l≠[]:=by intro e;rw[e] at hi;simp at hi
 obtain⟨b,l7,he,l8,l9,kQ,U⟩:=U.qn 0 rfl bH;simp only[Value.slice.injEq] at he;obtain⟨rfl,_,rfl⟩:=he;have hF:l.flatten.length=l.length*7:=fM dP;have hB:(l.drop (i+1)).flatten.length=(l.length-(i+1))*7:=by rw[fM λr hr=>dP r (List.mem_of_mem_drop hr),List.length_drop]
 have hlen:(l.take i++l.drop (i+1)).length=i+(l.length-(i+1)):=by simp;omega
 have lf:∀r∈(l.take i++l.drop (i+1)),r.length=7:=λr hr=>(List.mem_append.1 hr).elim (λh=>dP r (List.mem_of_mem_take h)) λh=>dP r (List.mem_of_mem_drop h);refine U.dt 6 ?_;simp only[TD];refine cg ?_;refine .o (qt (hi:=i) dA bL .tt .tt rfl om om) ?_;refine cg ?_;refine .o (D5 (lo:=i+1) dA bL .tt .tt om om om) ?_;refine .nil ?_;intro I a w U;refine U.Kx (xs:=(l.drop (i+1)).flatten) 0 dA bL .tt .tt rfl (by rw[List.drop_append_of_le_length (by simp only[List.length_map,hF];exact Nat.mul_le_mul_right _ om),<-List.map_drop,EU dP];exact jt _ (List.length_map _)) hB om (by simp only[List.length_append,List.length_map,List.length_replicate,hF,hB];omega) rfl λU=>?_;refine bK λI a w U=>?_;refine U.o (Kw (lo:=i+(l.length-(i+1))) (hi:=l.length) dA bL .tt .tt .tt rfl rfl om om) λU=>?_;refine U.D7 0 dA bL rfl iy .tt om rfl (by rw[jR]<;>simp only[List.length_append,List.length_map,List.length_replicate,hF,hB]<;>omega) λU=>?_;have U:=U.qp (l:=(l.take i++l.drop (i+1))) (cap:=cap) 0 rfl (by rw[jR,jR]<;>(try rw[jR])<;>simp only[List.length_append,List.length_map,List.length_replicate,hF,hB]<;>omega) lf om om om (KB dP hi);rw[<-hlen] at U;refine aq λI a w U=>?_;refine U.bD _ [0] rfl (.cons (.t rfl) .nil) trivial rfl rfl
def U8 (v:Value) (l:List an) (p:an->Bool) (fv:AV) (O:Own) (hl:l.length<=1048576) (hf:∀x,x∈l->xH prog fv [x.av] [O] (AV.bool (p x))):
 fQ prog 282 [AV.val v,fv] [Own.row v 125 3 (l.map an.cells),O] [Own.row v 125 3 (l.map an.cells),O] (AV.int (di p l)):=by
 refine fQ.intro 19 func282 rfl ntmps282 rfl aP (λW I a U=>?_);refine aF λI a w U=>?_;refine U.o (jY 0 c4 .tt rfl) λU=>?_;refine ao λI a w U=>?_;refine St.lo (σ:=Nat) (run 2 4 (run 11 8 [])) ⟨λk=>[(8,AV.int k)],λk=>[Own.row v 125 3 (l.map an.cells),O],λk=>k<=l.length/\∀i,i<k->p (ab l i)=false⟩ (λk=>l.length-k) 0 U ?aH ?bx;case aH=>exact⟨Nat.zero_le _,λi hi=>by omega⟩
 rintro k I a w al U;obtain⟨hk,aU⟩:=al;dsimp only at U;refine ao λI a w U=>?_;refine U.cd (λae=>?_) λae=>?_
 .simp only[B,List.length_map] at ae;refine bK λI a w U=>?_;obtain⟨b,cap,rfl⟩:=U.gv 0 rfl gG;refine U.o (fj c4 cx .tt .tt (λ_=>by simp only[List.length_map];omega)) λU=>?_;refine U.o (pg 0 cx .tt rfl (λ_=>by exact dL ae) rfl) λU=>?_;refine U.Kz [1] (hf _ (bB ae)) .tt (ai .tt aB) rfl aO rfl λI a w U=>?_;refine zt ?_;refine U.cd (λah=>?_) λah=>?_
  .refine aq λI a w U=>?_;refine U.bD () [0,1] rfl (.cons (.t rfl) .nil) trivial rfl (eW (lK ae aU ah).symm)
  refine aq λI a w U=>?_;exact U.ag (k+1) (⟨ae,λi h1=>by rcases Nat.lt_succ_iff_lt_or_eq.1 h1 with h|h;exact aU i h;rw[h];exact ah⟩)
 simp only[B,List.length_map] at ae;refine zt ?_;refine ao λI a w U=>?_;refine U.bD () [0,1] rfl (.cons (.t rfl) .nil) trivial rfl (eW (kR om aU).symm)
def LG:∀(ds l:List an),(ds.foldl ek l).length<=l.length+ds.length
 |[],l=>by simp
 |d::r,l=>by have h1:=LG r (ek l d);have h2:=Lx l d;simp only[List.foldl_cons,List.length_cons];omega
def LH (l ds:List an) (k:Nat):((ds.take k).foldl ek l).length<=l.length+k:=by
 have h1:=LG (ds.take k) l;have h2:(ds.take k).length<=k:=by simp;omega
 omega
def Server.U9 (s:Server) (x:AV):AV:=.agg [.int s.site,.bool s.up,qj s.aN,bV s.ar,bV s.waits,bf s.aE,x]
def Va {s:Server} {v:aD} (hk:cY v.key=true):(fw s v.key&&!hasB (λd=>!mC s d) v.aS)=j5 s v:=by
 have e:=yd (p:=λd=>!mC s d) (l:=v.aS);simp only[Bool.not_not] at e;unfold fw j5 AG;rw[hk,e];simp
def Vb (s:Server):(s.bn.filter λd=>!(!gV s d))=s.bn.filter (gV s):=by simp
def Vc {s x:Server} (h:ig x=ig s) (hp:eK x<0):gW s={x with bn:=x.bn.filter λd=>!(!gV x d)}:=by
 have e:=Ld hp;unfold gW AH;rw[<-h,e,Vb]
def Vd {s:Server} (h:s.ar.length<80):eK s=di (j5 s) s.waits:=by unfold eK;rw[if_pos h]
def LI (s:Server) (slot:Int):(!s.up||!aQ slot 0 2||((ab s.aN slot.toNat).eH !=1)||decide (9999<=(ab s.aN slot.toNat).bU))=!ld s slot:=by
 have e:decide (9999<=(ab s.aN slot.toNat).bU)=!decide ((ab s.aN slot.toNat).bU<9999):=by rw[Bool.eq_iff_iff];simp
 unfold ld;rw[e];simp[bne]
def Ve {s:Server} (h:bA s) {d:an} (hd:d∈s.aE):cY d.key=true:=by
 have:=(vF.1 h.aE).2.1 d hd;unfold jP at this;simp only[Bool.and_eq_true] at this;exact this.1
def Call.vM (q:Call) (g n:Value):AV:=.agg [AV.int q.aA,AV.int q.num,AV.int q.kind,gJ q.keys,AV.int q.val,bf q.ctx,AV.int q.bq,AV.int q.end_,AV.bool q.over,AV.int q.ax.time,AV.int q.ax.site,.val g,.val n]
def Call.Vf (q:Call) (g:Value):AV:=.agg [AV.int q.aA,AV.int q.num,AV.int q.kind,gJ q.keys,AV.int q.val,bf q.ctx,AV.int q.bq,AV.int q.end_,AV.bool q.over,AV.int q.ax.time,AV.int q.ax.site,.val g,bf q.aL]
def AR (q:Call) (h:vL q):
 Fn prog 166 [q.av] (q.av):=by
 refine Fn.go 45 func166 ntmps166 (λW I a U=>?_);obtain⟨h1,h2,h4,h5,h3⟩:=h;refine sr<|U.box rfl .tt λb1 I a w U=>U.alloc rfl ei jj λb2 I a w U=>?_;refine zt ?_;refine U.l0 λb6 I a w U=>?_;refine aF λI a w U=>?_;refine U.ap 2 λv9 a w U=>?_;obtain⟨I,U⟩:=U.fr 2 9;refine aq λI a w U=>?_;refine U.l0 λkr I a w U=>?_;refine aF λI a w U=>?_;refine U.ap 3 λj7 a w U=>?_;obtain⟨I,U⟩:=U.fr 3 14;refine aq λI a w U=>?_;refine U.l0 λvQ I a w U=>?_;refine aF λI a w U=>?_;refine U.ap 4 λj6 a w U=>?_;obtain⟨I,U⟩:=U.fr 4 19;refine aq λI a w U=>?_;refine U.l0 λvR I a w U=>?_;refine aq λI a w U=>?_;refine St.lo (σ:=Nat×Value) (run 3 3 (run 20 22 [])) ⟨λ⟨k,v⟩=>[(4,AV.int k),(3,AV.val v)],λ⟨k,v⟩=>[Own.box b1 45 q.cells,Own.box b2 45 [AV.val (.int .i64 0),AV.val (.int .i64 0),AV.val (.int .i64 0),AV.rows 1 [],AV.val (.int .i64 0),AV.rows 3 [],AV.val (.int .i64 0),AV.val (.int .i64 0),AV.val (.bool false),AV.val (.int .i64 0),AV.val (.int .i64 0),AV.rows 9 [],AV.rows 3 []],Own.gone,Own.gone,Own.gone,Own.row v 56 9 ((q.az.take k).map Answer.cells)],λ⟨k,v⟩=>k<=q.az.length⟩ (λ⟨k,v⟩=>q.az.length-k) (0,.slice (some ⟨vR,0,none⟩) 0 0) U ?aH ?bx;case aH=>exact Nat.zero_le _
 rintro⟨k,v⟩ I a w al U;have hk:k<=q.az.length:=al;dsimp only at U;refine cn λI a w U=>?_;refine cz (λae=>?_) λae=>?_
 .refine bK λI a w U=>?_;refine U.alloc rfl eI m5 λb5 I a w U=>?_;refine bc λI a w U=>?_;refine U.o (.c1 (j4 _ (h5 _ (bB ae)))) λU=>U.o .fv λU=>U.mX 6 bL .tt .tt rfl rfl rfl λa w U=>?_;refine aF λI a w U=>?_;refine U.o (.li [(ab q.az k).cells] rJ (.u .nil)) λU=>?_;refine U.ap 5 λvT a w U=>?_;rw[bN,<-dO ae] at U;refine aV λI a w U=>?_;have U:=U.drop 6;exact U.ag (k+1,vT) (ae)
 refine wp_exit<|cm<|cm<|dS<|ba<|wp_seq ?_;rw[List.take_of_length_le om] at U;obtain⟨I,U⟩:=U.fr 5 3;refine cn λI a w U=>?_;refine U.ret rfl (.cons (.sx 1) aX.nil) ?_;rfl
def Vg (q:Call) (h:vL q):
 bJ prog 166 [q.av] [] (λ_:Value×Value=>True) (λu=>[Own.row u.1 56 9 (q.az.map Answer.cells),Own.row u.2 125 3 (q.aL.map an.cells)]) (λu=>q.vM u.1 u.2):=by
 refine bJ.intro 45 func166 rfl ntmps166 rfl aP (λW I a U=>?_);obtain⟨h1,h2,h4,h5,h3⟩:=h;refine sr<|U.box rfl .tt λb1 I a w U=>U.alloc rfl ei jj λb2 I a w U=>?_;refine zt ?_;refine U.l0 λb6 I a w U=>?_;refine aF λI a w U=>?_;refine U.ap 2 λv9 a w U=>?_;obtain⟨I,U⟩:=U.fr 2 9;refine U.o .fv λU=>?_;try have ho9:=U.dK 2 rfl
 refine ao λI a w U=>?_;refine U.l0 λkr I a w U=>?_;refine aF λI a w U=>?_;refine U.ap 3 λj7 a w U=>?_;obtain⟨I,U⟩:=U.fr 3 14;refine U.o .fv λU=>?_;try have LJ:=U.dK 3 rfl
 refine ao λI a w U=>?_;refine U.l0 λvQ I a w U=>?_;refine aF λI a w U=>?_;refine U.ap 4 λj6 a w U=>?_;simp only[List.nil_append] at U;refine U.o .fv λU=>?_;try have LK:=U.dK 4 rfl
 refine ao λI a w U=>?_;refine U.l0 λvR I a w U=>?_;refine aq λI a w U=>?_;refine St.lo (σ:=Nat×Value) (run 3 3 (run 20 22 [])) ⟨λ⟨k,v⟩=>[(4,AV.int k),(3,AV.val v)],λ⟨k,v⟩=>[Own.box b1 45 [AV.int q.aA,AV.int q.num,AV.int q.kind,gJ q.keys,AV.int q.val,bf q.ctx,AV.int q.bq,AV.int q.end_,AV.bool q.over,AV.int q.ax.time,AV.int q.ax.site,nL q.az,AV.val j6],Own.box b2 45 [AV.val (.int .i64 0),AV.val (.int .i64 0),AV.val (.int .i64 0),AV.rows 1 [],AV.val (.int .i64 0),AV.rows 3 [],AV.val (.int .i64 0),AV.val (.int .i64 0),AV.val (.bool false),AV.val (.int .i64 0),AV.val (.int .i64 0),AV.rows 9 [],AV.rows 3 []],Own.gone,Own.gone,Own.row j6 125 3 (q.aL.map an.cells),Own.row v 56 9 ((q.az.take k).map Answer.cells)],λ⟨k,v⟩=>k<=q.az.length⟩ (λ⟨k,v⟩=>q.az.length-k) (0,.slice (some ⟨vR,0,none⟩) 0 0) U ?aH ?bx;case aH=>exact Nat.zero_le _
 rintro⟨k,v⟩ I a w al U;have hk:k<=q.az.length:=al;dsimp only at U;refine cn λI a w U=>?_;refine cz (λae=>?_) λae=>?_
 .refine bK λI a w U=>?_;refine U.alloc rfl eI m5 λb5 I a w U=>?_;refine bc λI a w U=>?_;refine U.o (.c1 (j4 _ (h5 _ (bB ae)))) λU=>U.o .fv λU=>U.mX 6 bL .tt .tt rfl rfl rfl λa w U=>?_;refine aF λI a w U=>?_;refine U.o (.li [(ab q.az k).cells] rJ (.u .nil)) λU=>?_;refine U.ap 5 λvT a w U=>?_;rw[bN,<-dO ae] at U;refine aV λI a w U=>?_;have U:=U.drop 6;exact U.ag (k+1,vT) (ae)
 refine wp_exit<|cm<|cm<|dS<|ba<|wp_seq ?_;rw[List.take_of_length_le om] at U;refine aF λI a w U=>?_;try have aim:=U.dK 5 rfl
 refine aM λI a w U=>?_;exact U.bD (v,j6) [5,4] rfl (.cons (.s 1 ei rfl rfl (by first|rfl|assumption)) .nil) trivial rfl rfl
structure lg (l:List Answer) (v:Answer) (k:Nat) (done:Bool) (out:List Answer):Prop where
 hk:k<=l.length
 eq:df l v=if done then out++l.drop k else out++df (l.drop k) v
 len:out.length<=k+done.toNat
def lg.zero (l:List Answer) (v:Answer):lg l v 0 false []:=⟨Nat.zero_le _,by simp,by simp⟩
section
variable {l:List Answer} {v:Answer} {k:Nat} {out:List Answer} {done:Bool}
def lg.before (hp:lg l v k false out) (h:k<l.length) (he:v.key<(ab l k).key):lg l v (k+1) true ((out++[v])++[ab l k]):=by
 refine⟨h,?_,by have:=hp.len;simp at this⊢;omega⟩;have:=hp.eq;rw[j0 h] at this;simp only[df,if_pos he] at this;rw[this];simp
def lg.step (hp:lg l v k done out) (h:k<l.length) (he:done=true\/¬v.key<(ab l k).key):lg l v (k+1) done (out++[ab l k]):=by
 refine⟨h,?_,by have:=hp.len;simp;omega⟩;have:=hp.eq;cases done
 .rw[j0 h] at this;have he:¬v.key<(ab l k).key:=he.resolve_left bt;simp only[df,if_neg he] at this;rw[this];simp
 simp only[if_true] at this⊢;rw[this,j0 h];simp
def lg.nW (hp:lg l v k true out) (h:l.length<=k):out=df l v:=by
 have:=hp.eq;rw[List.drop_eq_nil_of_le h] at this;simpa using this.symm
def lg.nX (hp:lg l v k false out) (h:l.length<=k):out++[v]=df l v:=by
 have:=hp.eq;rw[List.drop_eq_nil_of_le h] at this;simpa[df] using this.symm
end
def Vh {q:Call} {t:Int} (h:dQ q t) {x:Answer} {k:Nat} (hk:k<q.aL.length) (he:ab q.aL k=x.bF.bG) (hx:x.bF.key=x.key):0<=cE q x.key:=by
 have:=h.vI _ (bB hk);unfold qL at this;rw[Bool.and_eq_true,decide_eq_true_eq,he] at this;rw[<-hx];exact this.1
def LL:∀{l:List Answer} {a:Answer} {k:Nat},k<=l.length->(∀i,i<k->(ab l i).key<a.key)->(k<l.length->¬(ab l k).key<a.key)->(∀x∈l,x.key≠a.key)->l.take k++a::l.drop k=df l a
 |[],a,k,h,_,_,_=>by obtain rfl:k=0:=by simpa using h
                     rfl
 |e::r,a,0,_,_,h2,h3=>by
  have h2:=h2 bt;have h3:=h3 e bt;have:a.key<e.key:=by have h4:¬e.key<a.key:=h2;omega
  unfold df;rw[if_pos this];rfl
 |e::r,a,k+1,h,h1,h2,h3=>by
  have h0:e.key<a.key:=h1 0 om;unfold df;rw[if_neg om];show e::(r.take k++a::r.drop k)=_;rw[LL (by simpa using h) (λi hi=>h1 (i+1) om) (λhl=>h2 (by simpa using hl)) λx hx=>h3 x (by simp[hx])]
def Vi (m:aw) (d:an):
 Fn prog 355 [d.av,AV.ptr m.cells] (AV.bool (decide (d.key=m.key))):=by
 refine Fn.go 9 func355 ntmps355 (λW I a U=>?_);refine m3 λI a w U=>?_;refine U.rt ?_;exact congrArg AV.bool (by rw[Bool.eq_iff_iff];simp)
def LM {s:Server} {m:aw} (h:s.aE.length<=80):(!iW (jl s m)||((s.aE.length:Int)==80))=!(iW (jl s m)&&decide (s.aE.length<80)):=by
 have e:((s.aE.length:Int)==80)=!decide (s.aE.length<80):=by rw[Bool.eq_iff_iff];simp;omega
 rw[e];simp
def Vj {α:Type} [Inhabited α] {l:List α} {i:Nat}:l.set i (ab l i)=l:=by
 apply List.ext_getElem?;intro j;rw[List.getElem?_set];split
 .rename_i h;subst h;split
  .rename_i h;simp[ab,h]
  rename_i h;simp at h;simp[h]
 rfl
def AS {s:Server} {slot:Int} (h:(dT s slot).2.2=true):ld s slot=true:=by unfold dT at h;split at h;assumption;cases h
def EV {s:Server} {slot:Int} (h:(dT s slot).2.2=false):ld s slot=false:=by unfold dT at h;split at h;cases h;rename_i hh;simpa using hh
def EW {s:Server} {slot:Int} (h:ld s slot=true):dT s slot=(oe s slot,gj (oe s slot) slot,true):=by unfold dT;rw[if_pos h]
def Vk {s:Server} {slot:Int} (h:ld s slot=false):dT s slot=(s,bW,false):=by unfold dT;rw[h];rfl
def Vl {e:Ev} (h3:(!aQ e.kind 6 9||!cQ e.at_)=false):cQ e.at_=true:=by simp at h3;exact h3.2
def fy (x:Int):Prop:=-4611686018427387904<=x/\x<=4611686018427387904
def Ev.vU (e:Ev):Prop:=∀x∈e.ints,fy x
structure dj where
 w:aJ
 list:List Ev
 lv:Value
def iX {a b c d e f g h i j k:Int} (h1:fy a:=by unfold fy;omega) (h2:fy b:=by unfold fy;omega) (h3:fy c:=by unfold fy;omega) (h4:fy d:=by unfold fy;omega) (h5:fy e:=by unfold fy;omega) (h6:fy f:=by unfold fy;omega)
 (h7:fy g:=by unfold fy;omega) (h8:fy h:=by unfold fy;omega) (h9:fy i:=by unfold fy;omega) (AT:fy j:=by unfold fy;omega) (uS:fy k:=by unfold fy;omega):Ev.vU ⟨a,b,c,d,e,f,g,h,i,j,k⟩:=by
 intro x hx;unfold fy at*;simp only[Ev.ints,List.mem_cons,List.not_mem_nil,or_false] at hx;rcases hx with rfl|rfl|rfl|rfl|rfl|rfl|rfl|rfl|rfl|rfl|rfl<;>omega
def Vm {x i:Int} (h:fy x):fy (ab [0,2,x] i.toNat):=by
 unfold fy at*;have:∀k:Nat,ab [0,2,x] k=0\/ab [0,2,x] k=2\/ab [0,2,x] k=x:=λk=>by
  match k with
  |0=>exact .inl rfl
  |1=>exact .inr (.inl rfl)
  |2=>exact .inr (.inr rfl)
  |k+3=>exact .inl rfl
 rcases this i.toNat with h|h|h<;>omega
def AU {x:Int} (h1:0<=x) (h2:x<4611686018427387904):fy x:=by unfold fy;omega
end Go.Proofs.YtldbakcpcfdlaaaGreat
