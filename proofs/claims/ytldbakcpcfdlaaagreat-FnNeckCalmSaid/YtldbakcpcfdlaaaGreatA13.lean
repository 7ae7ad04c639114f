/- Part 13: contracts of functions, plain facts. -/
import Derived.Test.YtldbakcpcfdlaaaGreatA10
set_option linter.all false
set_option maxRecDepth 100000
set_option maxHeartbeats 4000000
namespace Go.Proofs.YtldbakcpcfdlaaaGreat
open Go Go.RowKit Tryz
attribute [local irreducible] wpList Code.wp Ok
def Mc (s:cA):
 Fn prog 178 [s.av] (AV.bool (jO s)):=by
 refine Fn.go 10 func178 ntmps178 (λW I a U=>?_);refine bc λI a w U=>?_;refine U.o (.bd gx aT.nil) λU=>?_;refine U.o (lF [_,_] [_,_] mu rfl rfl .tt .tt) λU=>?_;refine aF λI a w U=>?_;refine U.q .F (.cl (th ..)) λU=>?_;refine dh ?_;exact bI (by simp[jO,dW])
def E5 (s t:cA):
 Fn prog 239 [s.av,t.av] (AV.bool (c8 s t)):=by
 refine Fn.go 24 func239 ntmps239 (λW I a U=>?_);refine Ae λI a w U=>?_;refine U.rt ?_;rfl
def Ba (a b:an):
 Fn prog 157 [a.av,b.av] (AV.bool (dF a b)):=by
 refine Fn.go 24 func157 ntmps157 (λW I a U=>?_);refine Kk λI a w U=>?_;refine U.q .T2 (.cl (E5 ..)) λU=>?_;refine qx ?_;rfl
def yk (n:Int):
 Fn prog 176 [AV.int n] (AV.bool (aQ n 10 11)):=by
 refine Fn.go 5 func176 ntmps176 (λW I a U=>?_);refine aF λI a w U=>?_;refine U.o (.cl (ic ..)) λU=>?_;refine bk ?_;rfl
def V1 {n:Int} (h:iQ n):eN (IntKind.i64.wrap (n-10))=eN (n-10):=by
 obtain⟨h1,h2⟩:=h;by_cases h3:-9223372036854775808<=n-10
 .rw[IntWalk.i64_in _ ⟨h3,by omega⟩]
 have e:IntKind.i64.wrap (n-10)=n-10+18446744073709551616:=by
  simp only[IntKind.wrap];simp[IntKind.signed,IntKind.bits];omega
 rw[e];simp only[eN,aQ];rw[Bool.eq_iff_iff];simp;omega
def E6 (m:aw):
 Fn prog 89 [m.av] (AV.bool (bQ m)):=by
 refine Fn.go 76 func89 ntmps89 (λW I a U=>?_);refine bj λI a w U=>?_;refine U.o (.cl (ic ..)) λU=>?_;refine bc λI a w U=>?_;refine U.q .T (.cl (px ..)) λU=>?_;refine bc λI a w U=>?_;refine U.q .F2 (.cl (yk ..)) λU=>?_;refine bK λI a w U=>?_;refine U.q .T (.cl (px ..)) λU=>?_;refine bc λI a w U=>?_;refine U.q .F2 (.cl (yk ..)) λU=>?_;refine bK λI a w U=>?_;refine U.q .T (.cl (ic ..)) λU=>?_;refine bj λI a w U=>?_;refine U.q .T (.cl (rL ..)) λU=>?_;refine bj λI a w U=>?_;refine U.q .T (.cl (Mc ..)) λU=>?_;refine bj λI a w U=>?_;refine U.q .T (.cl (ic ..)) λU=>?_;refine bj λI a w U=>?_;refine U.q .T (.cl (m7 ..)) λU=>?_;refine bj λI a w U=>?_;refine U.q .T (.cl (ic ..)) λU=>?_;refine bj λI a w U=>?_;refine U.q .T (.cl (ic ..)) λU=>?_;refine bj λI a w U=>?_;refine U.q .T (.cl (qA ..)) λU=>?_;refine bj λI a w U=>?_;refine U.q .T (.cl (qA ..)) λU=>?_;refine bj λI a w U=>?_;refine U.q .T (.cl (Eh ..)) λU=>?_;refine dh ?_;rfl
def V2 (l:List (an)) (p:(an)->Bool) (fv:AV) (hf:∀x:an,x∈l->jZ prog fv [x.av] (AV.bool (p x))):
 Fn prog 282 [bf l,fv] (AV.int (di p l)):=by
 refine Fn.go 19 func282 ntmps282 (λW I a U=>?_);have hle:=U.eh (t:=0) rfl;refine aV λI a w U=>?_;refine St.lo (σ:=Nat) (run 2 4 (run 11 8 [])) ⟨λk=>[(8,AV.int k)],λk=>[],λk=>k<=l.length/\∀i,i<k->p (ab l i)=false⟩ (λk=>l.length-k) 0 U ?aH ?bx;case aH=>exact⟨Nat.zero_le _,λi hi=>by omega⟩
 rintro k I a w al U;obtain⟨hk,aU⟩:=al;refine ao λI a w U=>?_;refine cz (λae=>?_) λae=>?_
 .refine fm λI a w U=>?_;refine U.o (uW (hf _ (bB ae)) .tt (ai .tt aB)) λU=>?_;refine zt ?_;refine U.cd (λah=>?_) λah=>?_
  .refine dh ?_;exact eW (lK ae aU ah).symm
  refine aq λI a w U=>?_;exact U.ag (k+1) (⟨ae,λi h1=>by rcases Nat.lt_succ_iff_lt_or_eq.1 h1 with h|h;exact aU i h;rw[h];exact ah⟩)
 refine zt ?_;refine bk ?_;exact eW (kR om aU).symm
def Md (l:List (an)) (p:(an)->Bool) (fv:AV) (hf:∀x:an,x∈l->jZ prog fv [x.av] (AV.bool (p x))):
 Fn prog 223 [bf l,fv] (AV.bool (hasB p l)):=by
 refine Fn.go 9 func223 ntmps223 (λW I a U=>?_);refine bc λI a w U=>?_;refine U.o (.cl (V2 _ _ _ hf)) λU=>?_;refine dh ?_;rfl
def E7 (c:Call) (k:Nat):(!gz c.keys (ab c.az k).key||(decide (0<(k:Int))&&decide ((ab c.az k).key<=(ab c.az ((k:Int)-1).toNat).key)))=!et (λa=>gz c.keys a.key) fS c.az k:=by
 rw[<-rE];have e:decide ((ab c.az k).key<=(ab c.az ((k:Int)-1).toNat).key)=!fS (ab c.az ((k:Int)-1).toNat) (ab c.az k):=by rw[Bool.eq_iff_iff];simp[fS]
 rw[e]
def yl {l:List Int} {n:Int}:gz l n=true↔n∈l:=by
 constructor
 .intro h;obtain⟨x,hx,he⟩:=Em h;simp[rQ] at he;exact he▸hx
 exactλh=>AA h (by simp[rQ])
def v5 {l:List Int} (h:jK l=true) {n:Int} (hn:n∈l):cY n=true:=by
 obtain⟨k,hk,rfl⟩:=iz hn;have:=(iR.1 h) k hk;unfold et at this;rw[Bool.and_eq_true] at this;exact this.1
def E8 {c:Call} (h:lM c=true) {i:Nat} (hi:i<c.az.length):dH (ab c.az i)=true/\gz c.keys (ab c.az i).key=true:=by
 have:=(iR.1 h) i hi;unfold m8 et at this;simp only[Bool.and_eq_true] at this;exact⟨this.2,this.1.1⟩
def Bb (l:List Call) (k:Nat) (x:Int):0<=fT l k x/\fT l k x<=k:=by
 unfold fT;have:=List.length_filter_le (λd:Call=>d.aA==x) (l.take k);have h2:(l.take k).length<=k:=by simp;omega
 omega
def Me (l:List Call) (time:Int) (k:Nat):(!eY (ab l k) time||(decide (0<(k:Int))&&decide ((ab l k).bq<=(ab l ((k:Int)-1).toNat).bq)))=!vA l time k:=by
 have e:=rE (λd=>eY d time) (λa b=>decide (a.bq<b.bq)) l k;have e2:decide ((ab l k).bq<=(ab l ((k:Int)-1).toNat).bq)=!decide ((ab l ((k:Int)-1).toNat).bq<(ab l k).bq):=by rw[Bool.eq_iff_iff];simp
 rw[e2,e];rfl
def Mf (l:List Call) (time:Int) (k:Nat):((!eY (ab l k) time||(decide (0<(k:Int))&&decide ((ab l k).bq<=(ab l ((k:Int)-1).toNat).bq)))||((ab l k).num !=fT l (k+1) (ab l k).aA))=!(vA l time k&&((ab l k).num==fT l (k+1) (ab l k).aA)):=by
 rw[Me];simp[bne]
def pK (w:aJ) (i:Nat):Bool:=((ab w.aC i).site==(i:Int))&&gL (ab w.aC i)
def tJ (m:aw):Bool:=!bQ m
def Bc {c:Call} {time:Int} (h:eY c time=true):bP c.ctx=true/\(∀a∈c.az,dH a=true)/\ie c=true/\eN c.aA=true/\1<=c.bq/\c.bq<=time:=by
 simp only[eY,ko,nb,Bool.and_eq_true] at h;have hg:lM c=true:=h.1.1.2.1.1;have hb:=h.1.1.1.1.2;simp[aQ] at hb;refine⟨h.1.1.1.1.1.1.2,λa ha=>?_,h.1.1.1.1.1.1.1.1.2,h.1.1.1.1.1.1.1.1.1.1,hb.1,hb.2⟩;obtain⟨k,hk,rfl⟩:=iz ha;exact(E8 hg hk).1
def E9 {c:Call} {t:Int} (h:eY c t=true):eY c (c.bq+c.end_)=true:=by
 have hp:=Bc h;simp only[eY,ko,Bool.and_eq_true] at h⊢;have he:c.end_=0\/c.bq+1<=c.end_:=by
  have:=h.2;unfold mz at this;by_cases h0:c.end_=0
  .exact Or.inl h0
  rw[if_neg h0] at this;right;simp[aQ] at this;omega
 have h1:aQ c.bq 1 (c.bq+c.end_)=true:=by simp[aQ];omega
 have h2:mz c (c.bq+c.end_)=true:=by
  have:=h.2;unfold mz at this⊢;by_cases h0:c.end_=0
  .rwa[if_pos h0] at this⊢
  rw[if_neg h0] at this⊢;have e:aQ c.end_ (c.bq+1) (c.bq+c.end_)=true:=by simp[aQ];omega
  have e':aQ c.end_ (c.bq+1) t=true:=by
   simp[aQ] at this⊢;omega
  rw[e];rwa[e'] at this
 exact⟨⟨⟨⟨⟨h.1.1.1.1.1,h1⟩,h.1.1.1.2⟩,h.1.1.2⟩,h.1.2⟩,h2⟩
def Mg {l:List aD} {key:Int} {k:Nat} (hk:k<l.length) (h:∀i,k<i->i<l.length->qE key (ab l i)=false) (hp:qE key (ab l k)=true):gf l key=some (ab l k):=by
 unfold gf;rw[List.find?_eq_some_iff_getElem];refine⟨hp,l.length-1-k,by simp;omega,?_,λj hj=>?_⟩
 .rw[List.getElem_reverse];simp[ab];rw[List.getElem?_eq_getElem hk];simp;congr 1;omega
 rw[List.getElem_reverse];have:=h (l.length-1-j) om om;have e:l[l.length-1-j]'om=ab l (l.length-1-j):=by unfold ab;rw[List.getD_eq_getElem?_getD,List.getElem?_eq_getElem om];rfl
 rw[e,this];rfl
def Mh {l:List aD} {key:Int} (h:∀i,i<l.length->qE key (ab l i)=false):gf l key=none:=by
 unfold gf;rw[List.find?_eq_none];intro x hx;obtain⟨k,hk,rfl⟩:=iz (List.mem_reverse.1 hx);rw[h k hk];simp
def lj (s:Server) (m:aw):aw:={bW with kind:=8,aY:=s.site,to:=m.aY,key:=m.key,ax:=m.ax}
def nk (s:Server) (m:aw):Server:=
 if(m.aY==eS s.site)&&gV s ⟨m.key,m.ax⟩&&decide (s.bn.length<80) then gW {s with bn:=ek s.bn ⟨m.key,m.ax⟩} else s
def leaving (s:Server):List Nat:=(List.range s.aN.length).filter λi=>(ab s.aN i).eH==2
def kt (s:Server) (d:an):aw:={bW with kind:=7,aY:=s.site,to:=eS s.site,key:=d.key,ax:=d.ax}
def g0 (q:Call):Bool:=(q.end_==0)&&!q.over
def lR (q:Call) (time:Int):Call:=if q.aL=[] then{q with end_:=time} else q
def np (q:Call) (a:Answer) (time:Int):Call:=
 if a.bF.bG∈q.aL then
  let x:={q with az:=q.az.set (cE q a.key).toNat a,aL:=q.aL.filter λd=>decide (d≠a.bF.bG)}
  if x.aL=[] then{x with end_:=time} else x
 else q
def qQ (l:List an) (h:l.length<=1048576):
 Fn prog 138 [bf l] (bf l):=by
 refine Fn.go 5 func138 ntmps138 (λW I a U=>?_);refine aF λI a w U=>?_;have U:=U.fC (sz:=3) 125;refine U.append 0 rfl c4 cx rfl .c .r rfl fK λv4 a w U=>?_;obtain⟨I,U⟩:=U.fr 0 4;refine bk ?_;rfl
def Fa (l:List an) (d:an) (hl:bP l=true):
 Fn prog 192 [bf l,d.av] (bf (fR l d)):=by
 refine Fn.go 53 func192 ntmps192 (λW I a U=>?_);have pJ:=dY hl;have U:=U.fC (sz:=3) 125;refine ib λI a w U=>?_;refine St.lo (σ:=Nat×Bool×List an×Value) (run 2 5 (8::(run 35 11 []))) ⟨λ⟨k,done,out,v⟩=>[(11,AV.int k),(6,AV.bool done),(5,AV.val v)],λ⟨k,done,out,v⟩=>[Own.row v 125 3 (out.map an.cells)],λ⟨k,done,out,v⟩=>iV l d k done out⟩ (λ⟨k,done,out,v⟩=>l.length-k) (0,false,[],.slice none 0 0) U ?aH ?bx;case aH=>exact iV.zero l d
 rintro⟨k,done,out,v⟩ I a w al U;have hp:iV l d k done out:=al;have hk:=hp.hk;have iO:=hp.len;have mZ:done.toNat<=1:=by cases done<;>simp
 dsimp only at U;refine ao λI a w U=>?_;refine cz (λae=>?_) λae=>?_
 .refine aF λI a w U=>?_;refine U.alloc rfl cx ez λb8 I a w U=>?_;refine ib λI a w U=>?_;refine cz (λah=>?_) λah=>?_
  .refine bj λI a w U=>?_;refine U.o (.c2 (E5 ..)) λU=>?_;refine zt ?_;refine cz (λaj=>?_) λaj=>?_
   .refine bK λI a w U=>?_;refine U.o (.li [d.cells] eJ (.u .nil)) λU=>?_;refine U.ap 0 λqH a w U=>?_;rw[bN] at U;refine aM λI a w U=>?_;have U:=U.drop 1;exact U.ag (k+1,true,out++[d],qH) (by have h:=(hp.same hl ae ah).2;rw[aj,if_pos rfl] at h;exact h)
   refine bc λI a w U=>?_;refine U.o (.li [(ab l k).cells] eJ (.u .nil)) λU=>?_;refine U.ap 0 λqH a w U=>?_;rw[bN] at U;refine aM λI a w U=>?_;have U:=U.drop 1;exact U.ag (k+1,true,out++[ab l k],qH) (by have h:=(hp.same hl ae ah).2;rw[aj] at h;exact h)
  refine td λI a w U=>?_;refine cz (λaG=>?_) λaG=>?_
  .refine aF λI a w U=>?_;refine U.o (.li [d.cells] eJ (.u .nil)) λU=>?_;refine U.ap 0 λMi a w U=>?_;rw[bN] at U;refine bj λI a w U=>?_;refine U.o (.li [(ab l k).cells] eJ (.u .nil)) λU=>?_;refine U.ap 0 λqH a w U=>?_;rw[bN] at U;refine aM λI a w U=>?_;have U:=U.drop 1;exact U.ag (k+1,true,(out++[d])++[ab l k],qH) (by obtain⟨h1,h2⟩:=aG;subst h2;exact hp.before hl ae h1)
  refine aF λI a w U=>?_;refine U.o (.li [(ab l k).cells] eJ (.u .nil)) λU=>?_;refine U.ap 0 λqH a w U=>?_;rw[bN] at U;refine aM λI a w U=>?_;have U:=U.drop 1;exact U.ag (k+1,done,out++[ab l k],qH) (hp.step ae ah λhd=>by rcases aG with h|h;exact h;rw[hd] at h;cases h)
 refine zt ?_;refine aq λI a w U=>?_;refine cz (λaK=>?_) λaK=>?_
 .refine aF λI a w U=>?_;refine U.o (.li [d.cells] eJ (.u .nil)) λU=>?_;refine U.ap 0 λV3 a w U=>?_;rw[bN] at U;refine aM λI a w U=>?_;obtain⟨I,U⟩:=U.fr 0 4;refine U.rt ?_;exact congrArg (AV.rows 3) (by subst aK;exact hp.nX om▸rfl)
 refine aq λI a w U=>?_;obtain⟨I,U⟩:=U.fr 0 4;refine U.rt ?_;exact congrArg (AV.rows 3) (by subst aK;rw[hp.nW om])
def V4 (l:List Int) (key:Int):
 Fn prog 321 [gJ l,AV.int key] (AV.int (di (rQ key) l)):=by
 refine Fn.go 19 func321 ntmps321 (λW I a U=>?_);have hle:=U.eh (t:=0) rfl;refine aV λI a w U=>?_;refine St.lo (σ:=Nat) (run 2 4 (run 11 8 [])) ⟨λk=>[(8,AV.int k)],λk=>[],λk=>k<=l.length/\∀i,i<k->rQ key (ab l i)=false⟩ (λk=>l.length-k) 0 U ?aH ?bx;case aH=>exact⟨Nat.zero_le _,λi hi=>by omega⟩
 rintro k I a w al U;obtain⟨hk,aU⟩:=al;refine ao λI a w U=>?_;refine cz (λae=>?_) λae=>?_
 .refine m3 λI a w U=>?_;refine U.cd (λah=>?_) λah=>?_
  .rw[show(key==ab l k)=rQ key (ab l k) from Bool.beq_comm] at ah;refine dh ?_;exact eW (lK ae aU ah).symm
  rw[show(key==ab l k)=rQ key (ab l k) from Bool.beq_comm] at ah;refine aq λI a w U=>?_;exact U.ag (k+1) (⟨by omega,λi h1=>by rcases Nat.lt_succ_iff_lt_or_eq.1 h1 with h|h;exact aU i h;rw[h];exact ah⟩)
 refine zt ?_;refine bk ?_;exact eW (kR om aU).symm
def Mj (l:List Int) (key:Int):
 Fn prog 283 [gJ l,AV.int key] (AV.bool (gz l key)):=by
 refine Fn.go 9 func283 ntmps283 (λW I a U=>?_);refine bc λI a w U=>?_;refine U.o (.cl (V4 l key)) λU=>?_;refine dh ?_;rfl
def Ml (x:Answer) (s:cA):
 Fn prog 191 [x.av,s.av] (AV.bool (my x s)):=by
 refine Fn.go 15 func191 ntmps191 (λW I a U=>?_);refine z9 λI a w U=>?_;refine U.q .F (.cl (E5 ..)) λU=>?_;refine dh ?_;rfl
def Bd (u v:aD) (i:Nat):Bool:=decide (ab u.aS i=ab v.aS i)
def Mm (l:List Call) (time:Int) (k:Nat):(!eY (ab l k) time||(decide (0<(k:Int))&&decide ((ab l k).bq<=(ab l ((k:Int)-1).toNat).bq)))=!vA l time k:=Me l time k
def tK (v:aD) (h:v.aS.length<=1048576):
 Fn prog 159 [v.av] (v.av):=by
 refine Fn.go 8 func159 ntmps159 (λW I a U=>?_);refine sr<|U.box rfl .tt λb1 I a w U=>U.alloc rfl bL dy λb2 I a w U=>?_;refine aF λI a w U=>?_;refine U.o (.cl (qQ v.aS h)) λU=>?_;refine aV λI a w U=>?_;refine U.ret rfl (.cons (.sx 1) aX.nil) ?_;rfl
def tL (l:List aD) (h:l.length<=1048576) (hd:∀v∈l,v.aS.length<=1048576):
 gO prog 130 [bV l] 54 7 (l.map aD.cells):=by
 refine gO.intro 19 func130 rfl ntmps130 rfl aP (λW I a U=>?_);have U:=U.fC (sz:=7) 54;refine cn λI a w U=>?_;refine St.lo (σ:=Nat×Value) (3::(5::(run 10 8 []))) ⟨λ⟨k,v⟩=>[(8,AV.int k),(3,AV.val v)],λ⟨k,v⟩=>[Own.row v 54 7 ((l.take k).map aD.cells)],λ⟨k,v⟩=>k<=l.length⟩ (λ⟨k,v⟩=>l.length-k) (0,.slice none 0 0) U ?aH ?bx;case aH=>exact Nat.zero_le _
 rintro⟨k,v⟩ I a w al U;have hk:k<=l.length:=al;dsimp only at U;refine ao λI a w U=>?_;refine cz (λae=>?_) λae=>?_
 .refine aF λI a w U=>?_;refine U.alloc rfl bL dy λb5 I a w U=>?_;refine ao λI a w U=>?_;obtain⟨I,U⟩:=U.fb 1 5;refine aF λI a w U=>?_;refine U.o (.c1 (tK (ab l k) (hd _ (bB ae)))) λU=>?_;refine U.o (.li [(ab l k).cells] iy (.u .nil)) λU=>?_;refine U.ap 0 λFb a w U=>?_;rw[bN,<-dO ae] at U;refine aM λI a w U=>?_;have U:=U.drop 1;exact U.ag (k+1,Fb) (ae)
 refine zt ?_;refine aq λI a w U=>?_;exact U.nO (r:=2) 0 rfl rfl rfl (by rw[List.take_of_length_le om])
def sa (l:List aD):Prop:=l.length<=1048576/\∀v∈l,v.aS.length<=1048576
def iY (m:aw):Prop:=m.aS.length<=1048576/\sa m.ar/\sa m.waits/\m.aE.length<=1048576
def ou (s:Server):Prop:=s.aN.length<=1048576/\sa s.ar/\sa s.waits/\s.aE.length<=1048576/\s.bn.length<=1048576
def sd {l:List aD} (h:bY l=true):sa l:=⟨by have:=fV h;omega,λv hv=>by have:=dY (AI (gP h v hv));omega⟩
def Fc (m:aw) (h:iY m):
 Fn prog 244 [m.av] (m.av):=by
 refine Fn.go 22 func244 ntmps244 (λW I a U=>?_);obtain⟨h1,⟨h2,h3⟩,⟨h4,h5⟩,h6⟩:=h;refine sr<|U.box rfl .tt λb1 I a w U=>U.alloc rfl cV dr λb2 I a w U=>?_;refine zt ?_;refine U.l0 λb3 I a w U=>?_;refine aF λI a w U=>?_;refine U.ap 2 λv6 a w U=>?_;obtain⟨I,U⟩:=U.fr 2 6;refine bj λI a w U=>?_;refine U.o (.cl (qI m.ar h2 h3)) λU=>?_;refine bj λI a w U=>?_;refine U.o (.cl (qI m.waits h4 h5)) λU=>?_;refine aq λI a w U=>?_;refine U.l0 λvQ I a w U=>?_;refine aF λI a w U=>?_;refine U.ap 3 λj6 a w U=>?_;obtain⟨I,U⟩:=U.fr 3 19;refine aV λI a w U=>?_;refine U.ret rfl (.cons (.sx 1) aX.nil) ?_;rfl
def Fe (l:List aw) (h:l.length<=1048576) (hd:∀y∈l,iY y):
 Fn prog 164 [cU l] (cU l):=by
 refine Fn.go 21 func164 ntmps164 (λW I a U=>?_);have hle:=U.eh (t:=0) rfl;refine ao λI a w U=>?_;refine U.l0 λb5 I a w U=>?_;refine aq λI a w U=>?_;refine St.lo (σ:=Nat×Value) (run 2 3 (run 14 6 [])) ⟨λ⟨k,v⟩=>[(4,AV.int k),(3,AV.val v)],λ⟨k,v⟩=>[Own.row v 108 15 ((l.take k).map aw.cells)],λ⟨k,v⟩=>k<=l.length⟩ (λ⟨k,v⟩=>l.length-k) (0,.slice (some ⟨b5,0,none⟩) 0 0) U ?aH ?bx;case aH=>exact Nat.zero_le _
 rintro⟨k,v⟩ I a w al U;have hk:k<=l.length:=al;dsimp only at U;refine aV λI a w U=>?_;refine cz (λae=>?_) λae=>?_
 .refine bK λI a w U=>?_;refine U.o (.c1 (Fc (ab l k) (hd _ (bB ae)))) λU=>?_;refine U.o (.li [(ab l k).cells] fo (.u .nil)) λU=>?_;refine U.ap 0 λj6 a w U=>?_;rw[bN,<-dO ae] at U;refine aV λI a w U=>?_;exact U.ag (k+1,j6) (ae)
 refine zt ?_;refine aq λI a w U=>?_;obtain⟨I,U⟩:=U.fr 0 2;refine U.rt ?_;exact congrArg (AV.rows 15) (by rw[List.take_of_length_le om])
def v8 (s:Server) (h:ou s):
 Fn prog 165 [s.av] (s.av):=by
 refine Fn.go 27 func165 ntmps165 (λW I a U=>?_);obtain⟨h1,⟨h2,h3⟩,⟨h4,h5⟩,h6,h7⟩:=h;refine sr<|U.box rfl .tt λb1 I a w U=>U.alloc rfl ck c9 λb2 I a w U=>?_;refine zt ?_;refine U.l0 λb3 I a w U=>?_;refine aF λI a w U=>?_;refine U.ap 2 λv6 a w U=>?_;obtain⟨I,U⟩:=U.fr 2 6;refine bj λI a w U=>?_;refine U.o (.cl (qI s.ar h2 h3)) λU=>?_;refine bj λI a w U=>?_;refine U.o (.cl (qI s.waits h4 h5)) λU=>?_;refine aq λI a w U=>?_;refine U.l0 λvQ I a w U=>?_;refine aF λI a w U=>?_;refine U.ap 3 λj6 a w U=>?_;obtain⟨I,U⟩:=U.fr 3 19;refine aq λI a w U=>?_;refine U.l0 λvR I a w U=>?_;refine aF λI a w U=>?_;refine U.ap 4 λtx a w U=>?_;obtain⟨I,U⟩:=U.fr 4 24;refine aV λI a w U=>?_;refine U.ret rfl (.cons (.sx 1) aX.nil) ?_;rfl
def Be (l:List an) (h:l.length<=1048576):
 gO prog 138 [bf l] 125 3 (l.map an.cells):=by
 refine gO.intro 5 func138 rfl ntmps138 rfl aP (λW I a U=>?_);refine aF λI a w U=>?_;have U:=U.fC (sz:=3) 125;refine U.append 0 rfl c4 cx rfl .c .r rfl fK λv4 a w U=>?_;refine ao λI a w U=>?_;exact U.nO (r:=2) 0 rfl rfl rfl rfl
def Server.V5 (s:Server) (r:Value×Value×Value×Value×Value):AV:=.agg [.int s.site,.bool s.up,.val r.1,.val r.2.1,.val r.2.2.1,.val r.2.2.2.1,.val r.2.2.2.2]
def Server.Mn (s:Server) (r:Value×Value×Value×Value×Value):List Own:=[Own.row r.1 97 2 (s.aN.map cI.cells),Own.row r.2.1 54 7 (s.ar.map aD.cells),Own.row r.2.2.1 54 7 (s.waits.map aD.cells),Own.row r.2.2.2.1 125 3 (s.aE.map an.cells),Own.row r.2.2.2.2 125 3 (s.bn.map an.cells)]
def ym (s:Server) (h:ou s):
 bJ prog 136 [s.av] [] (λ_=>True) s.Mn s.V5:=by
 refine bJ.intro 23 func136 rfl ntmps136 rfl aP (λW I a U=>?_);obtain⟨h1,⟨h2,h3⟩,⟨h4,h5⟩,h6,h7⟩:=h;refine bw λI a w U=>?_;refine U.alloc rfl ck c9 λb2 I a w U=>?_;refine zt ?_;have U:=U.fP;have U:=U.fP;have U:=U.fP;have U:=U.fP;have U:=U.fP;have U:=U.fC (sz:=2) 97;refine U.s7 20 _ (rp 6 (([6],some (6,[9]))::rp 2 (([1],some (1,[12]))::rp 2 (([2],some (2,[15]))::rp 2 (([3],some (3,[18]))::rp 2 [([4],some (4,[21])),([5],some (5,[22,9,12,15,18,21]))]))))) rfl aP aP rfl ?_;simp only[TD];refine gw ?_;refine aI.z0 6 rfl rfl fq dR rfl .c .r fK ?_;refine cg ?_;refine aI.km 1 rfl rfl (tL s.ar h2 h3) (ai .r aB) ?_;refine cg ?_;refine aI.km 2 rfl rfl (tL s.waits h4 h5) (ai .r aB) ?_;refine cg ?_;refine aI.km 3 rfl rfl (Be s.aE h6) (ai .r aB) ?_;refine cg ?_;refine aI.km 4 rfl rfl (Be s.bn h7) (ai .r aB) ?_;refine aI.Ak 5 [9,12,15,18,21] (λa=>AV.agg [AV.int s.site,AV.bool s.up,AV.val (a.tmps.getD 9 undef),AV.val (a.tmps.getD 12 undef),AV.val (a.tmps.getD 15 undef),AV.val (a.tmps.getD 18 undef),AV.val (a.tmps.getD 21 undef)]) rfl rfl rfl rfl (λa b h=>by simp only[List.forall_mem_cons] at h;simp only[h]) rfl (λF a I he=>Ok.to (.bd c9 (.k (.k (aT.c Tt rfl .tt (rK (t:=9) he) (aT.c Tv rfl .tt (rK (t:=12) he) (aT.c Tx rfl .tt (rK (t:=15) he) (aT.c TA rfl .tt (rK (t:=18) he) (aT.c TC rfl .tt (rK (t:=21) he) aT.nil))))))))) ?_;refine .nil ?_;intro I a w U;change St _ _ [Own.box b2 95 [AV.val (.int .i64 0),AV.val (.bool false),AV.rows 2 [],AV.rows 7 [],AV.rows 7 [],AV.rows 3 [],AV.rows 3 []],Own.row (a.tmps.getD 12 undef) 54 7 (s.ar.map aD.cells),Own.row (a.tmps.getD 15 undef) 54 7 (s.waits.map aD.cells),Own.row (a.tmps.getD 18 undef) 125 3 (s.aE.map an.cells),Own.row (a.tmps.getD 21 undef) 125 3 (s.bn.map an.cells),Own.is (AV.agg [AV.int s.site,AV.bool s.up,AV.val (a.tmps.getD 9 undef),AV.val (a.tmps.getD 12 undef),AV.val (a.tmps.getD 15 undef),AV.val (a.tmps.getD 18 undef),AV.val (a.tmps.getD 21 undef)]) (a.tmps.getD 22 undef),Own.row (a.tmps.getD 9 undef) 97 2 (s.aN.map cI.cells)] _ _ _ at U;have U:=U.Al (d:=22) 5 rfl;generalize a.tmps.getD 9 undef=v9 at U;generalize a.tmps.getD 12 undef=V6 at U;generalize a.tmps.getD 15 undef=Ff at U;generalize a.tmps.getD 18 undef=Mo at U;generalize a.tmps.getD 21 undef=Bf at U;show wpList _ _ _ _ _ _;refine ao λI a w U=>?_;exact U.bD (v9,V6,Ff,Mo,Bf) [6,1,2,3,4] rfl (.cons (.s 0 ck rfl rfl (by first|rfl|assumption)) .nil) trivial rfl rfl
def qR (s:Server) (h:ou s):Fn prog 136 [s.av] s.av:=(ym s h).frozen λr c I a w _ U=>by
 obtain⟨I,U⟩:=U.fa 0 0 2;obtain⟨I,U⟩:=U.fa 1 0 3;obtain⟨I,U⟩:=U.fa 2 0 4;obtain⟨I,U⟩:=U.fa 3 0 5;obtain⟨I,U⟩:=U.fa 4 0 6;exact⟨_,_,_,U⟩
def yn (m:aw) (h:iY m):
 Fn prog 221 [m.av] (m.av):=by
 refine Fn.go 20 func221 ntmps221 (λW I a U=>?_);obtain⟨h1,⟨h2,h3⟩,⟨h4,h5⟩,h6⟩:=h;refine sr<|U.box rfl .tt λb1 I a w U=>U.alloc rfl cV dr λb2 I a w U=>?_;refine zt ?_;refine U.dt 13 ?_;simp only[TD];refine cg ?_;refine .o (.cl (qQ m.aS h1)) ?_;refine cg ?_;refine .o (cq (gO.fn (tL m.ar h2 h3)) (ai .r aB)) ?_;refine cg ?_;refine .o (cq (gO.fn (tL m.waits h4 h5)) (ai .r aB)) ?_;refine cg ?_;refine .o (.cl (qQ m.aE h6)) ?_;refine aW ?_;refine .nil ?_;intro I a w U;refine m4 λI a w U=>?_;refine U.ret rfl (.cons (.sx 1) aX.nil) ?_;rfl
def Mp {α:Type} [Inhabited α] {p:α->Bool} {l:List α} {k:Nat} (hk:k<l.length) (h:∀i,i<k->p (ab l i)=false) (hp:p (ab l k)=true):l.find? p=some (ab l k):=by
 rw[List.find?_eq_some_iff_getElem];refine⟨hp,k,hk,by simp[ab,hk],λj hj=>?_⟩;have jN:j<l.length:=by omega
 have:=h j hj;simpa[ab,jN] using this
def Mq {α:Type} [Inhabited α] {p:α->Bool} {l:List α} {k:Nat} (hk:l.length<=k) (h:∀i,i<k->p (ab l i)=false):l.find? p=none:=by
 rw[List.find?_eq_none];intro x hx;obtain⟨i,hi,rfl⟩:=iz hx;rw[h i om];simp
def Mr (l:List aD) (key:Int) (hc:bY l=true):
 Fn prog 334 [bV l,AV.int key] (AV.c6 [((gf l key).getD default).av,AV.bool (gf l key).isSome]):=by
 refine Fn.go 31 func334 ntmps334 (λW I a U=>?_);have hle:=U.eh (t:=0) rfl;have vD:=fV hc;refine sr<|U.alloc rfl bL dy λb4 I a w U=>?_;refine aF λI a w U=>?_;refine U.o (.cl (qA ..)) λU=>?_;refine ao λI a w U=>?_;refine U.cd (λae=>?_) λae=>?_
 .exfalso;rw[hc] at ae;cases ae;skip
 refine aV λI a w U=>?_;refine St.lo (σ:=Nat) (run 2 5 (run 16 14 [])) ⟨λj=>[(6,AV.int ((j:Int)-1))],λj=>[Own.box b4 54 [AV.val (.int .i64 0),AV.val (.int .i64 0),AV.val (.int .i64 0),AV.val (.int .i64 0),AV.val (.int .i64 0),AV.val (.int .i64 0),AV.rows 3 []]],λj=>j<=l.length/\∀i,j<=i->i<l.length->qE key (ab l i)=false⟩ (λj=>j) l.length U ?aH ?bx;case aH=>exact⟨Nat.le_refl _,λi h1 h2=>by omega⟩
 rintro j I a w al U;obtain⟨hk,aU⟩:=al;refine aq λI a w U=>?_;refine cz (λah=>?_) λah=>?_
 .refine ib λI a w U=>?_;refine U.cd (λaj=>?_) λaj=>?_
  .refine bj λI a w U=>?_;refine U.o (cq (j4 _ (by have:=qF hc _ (bB (k:=((j:Int)-1).toNat) om);omega)) (ai (.t rfl) aB)) λU=>?_;refine aq λI a w U=>?_;refine U.ret rfl (.cons (.sx 0) (.cons (.t rfl) aX.nil)) ?_;exact(by rw[Mg (k:=((j:Int)-1).toNat) om (λi h1 h2=>aU i om h2) aj];rfl)
  refine aM λI a w U=>?_;refine U.again (j-1) ?ik ?il ef ?im (by repeat(first|exact Env.le_rfl|refine Env.iB rfl ?_));case ik=>omega
  case il=>exact⟨by omega,λi h1 h2=>by by_cases h:i=((j:Int)-1).toNat;(subst h;exact aj);exact aU i om h2⟩
  case im=>exact(Env.dM rfl (by first|rfl|exact congrArg AV.int om) Env.le_nil)
 refine zt ?_;refine U.o (.bd dy aT.nil) λU=>?_;refine aq λI a w U=>?_;refine U.ret rfl (.cons (.sx 0) (.cons (.t rfl) aX.nil)) ?_;exact(by rw[Mh λi h=>aU i om h];rfl)
def V7 (s:Server) (key aA call:Int):
 Fn prog 333 [s.av,AV.int key,AV.int aA,AV.int call] (AV.c6 [((jT s key aA call).getD default).av,AV.bool (jT s key aA call).isSome]):=by
 refine Fn.go 52 func333 ntmps333 (λW I a U=>?_);have lens:s.aN.length<=9223372036854775807/\s.ar.length<=9223372036854775807/\s.waits.length<=9223372036854775807/\s.aE.length<=9223372036854775807/\s.bn.length<=9223372036854775807:=⟨U.ln 0 2,U.ln 0 3,U.ln 0 4,U.ln 0 5,U.ln 0 6⟩;refine bw λI a w U=>?_;refine U.alloc rfl bL dy λb8 I a w U=>?_;refine aq λI a w U=>?_;refine St.lo (σ:=Nat) (run 42 9 []) ⟨λk=>[(10,AV.int k)],λk=>[Own.box b8 54 [AV.val (.int .i64 0),AV.val (.int .i64 0),AV.val (.int .i64 0),AV.val (.int .i64 0),AV.val (.int .i64 0),AV.val (.int .i64 0),AV.rows 3 []]],λk=>k<=s.ar.length/\∀i,i<k->(oc s key aA call) (ab s.ar i)=false⟩ (λk=>s.ar.length-k) 0 U ?aH ?bx;case aH=>exact⟨Nat.zero_le _,λi hi=>by omega⟩
 rintro k I a w al U;obtain⟨hk,aU⟩:=al;refine cn λI a w U=>?_;refine cz (λae=>?_) λae=>?_
 .refine bK λI a w U=>?_;refine U.alloc rfl bL dy λkr I a w U=>?_;refine ao λI a w U=>?_;obtain⟨I,U⟩:=U.fb 1 11;refine U.dk ?_;refine mq ?_;refine dq ?_;refine .q .T (.cl (nR ..)) ?_;refine cg ?_;refine .q .T (.cl (nR ..)) ?_;refine cg ?_;refine .nil ?_;intro I a w U;refine ba ?_;refine U.cd (λah=>?_) λah=>?_
  .change(oc s key aA call) (ab s.ar k)=true at ah;refine aM λI a w U=>?_;refine U.ret rfl (.cons (.sx 0) (.cons (.t rfl) aX.nil)) ?_;exact(by rw[show jT s key aA call=some (ab s.ar k) from Mp ae aU ah];rfl)
  change(oc s key aA call) (ab s.ar k)=false at ah;refine aM λI a w U=>?_;have U:=U.drop 1;exact U.ag (k+1) (⟨ae,λi h1=>by rcases Nat.lt_succ_iff_lt_or_eq.1 h1 with h|h;exact aU i h;rw[h];exact ah⟩)
 refine zt ?_;refine U.o (.bd dy aT.nil) λU=>?_;refine aq λI a w U=>?_;refine U.ret rfl (.cons (.sx 0) (.cons (.t rfl) aX.nil)) ?_;exact(by rw[show jT s key aA call=none from Mq om aU];rfl)
def Bg {l m:List an} (h:fD l=true) (U:m.Sublist l):fD m=true:=by
 obtain⟨h1,h2,h3⟩:=vF.1 h;exact vF.2 ⟨Nat.le_trans U.length_le h1,λx hx=>h2 x (U.subset hx),h3.sublist U⟩
def dZ.small {s:Server} (h:dZ s) (ho:s.aE.length<=1048576):ou s:=⟨by have:=h.aN;omega,sd h.ar,sd h.waits,ho,by have:=h.bn;omega⟩
def dZ.Fg {s:Server} (h:dZ s):dZ (ig s):=by
 have:∀(n:Nat) (s:Server),dZ s->dZ (kV n s):=by
  intro n;induction n with
  |zero=>exactλs h=>h
  |succ n ih=>
   intro s h
   unfold kV
   split
   .exact h
   exact ih _ (h.vG om)
 exact this _ _ h
def dZ.settle {s:Server} (h:dZ s):dZ (gW s):=by
 have h2:=h.Fg;exact⟨h2.aN,h2.ar,h2.waits,h2.apart,Nat.le_trans (List.length_filter_le _ _) h2.bn⟩
def bA.jd {s:Server} (h:bA s):bA (AH s):=
 ⟨h.site,h.aN,h.ar,h.waits,h.aE,Bg h.bn List.filter_sublist,λe=>by show s.bn.filter _=[];rw[h.up e];rfl,h.cH,h.here,h.ng,h.nh,h.apart,h.ni⟩
def bA.eb {s:Server} (h:bA s) (slot:Int):bA (eb s slot):=by
 have al:=h.ok.drop slot;refine⟨h.site,h.aN,al.ar,al.waits,Bg h.aE List.filter_sublist,h.bn,h.up,h.cH,λv hv=>h.here v (qK hv),λv hv=>h.ng v (qK hv),λv hv=>h.nh v (qK hv),
  λv hv x hx=>h.apart v (qK hv) x (qK hx),λd hd=>?_⟩
 obtain⟨h1,h2⟩:=List.mem_filter.1 hd;obtain⟨x,hx,e⟩:=h.ni d h1;refine⟨x,List.mem_filter.2 ⟨hx,?_⟩,e⟩;subst e;exact h2
def Ms {s:Server} {slot:Int}:(∀v∈(Go.Proofs.YtldbakcpcfdlaaaGreat.eb s slot).ar,gS v.key≠slot)/\(∀v∈(Go.Proofs.YtldbakcpcfdlaaaGreat.eb s slot).waits,gS v.key≠slot):=by
 constructor<;>intro v hv<;>have:=(List.mem_filter.1 hv).2<;>simpa[eR] using this
def tM {x:cI}:nS x=true↔0<=x.bU/\x.bU<=9999/\0<=x.eH/\x.eH<=2/\(x.eH≠0->x.bU≠0):=by
 unfold nS aQ;simp only[Bool.and_eq_true,decide_eq_true_eq,Bool.not_eq_true',Bool.and_eq_false_iff,bne_eq_false_iff_eq,beq_eq_false_iff_ne];constructor
 .rintro⟨⟨⟨a,b⟩,d,e⟩,f⟩;exact⟨a,b,d,e,λh=>f.resolve_left h⟩
 rintro⟨a,b,d,e,f⟩;exact⟨⟨⟨a,b⟩,d,e⟩,by by_cases h:x.eH=0;exact .inl h;exact .inr (f h)⟩
def Bh {s:Server} (h:bA s) {i:Nat} (hi:i<3):nS (ab s.aN i)=true:=h.cH _ (bB (by rw[h.aN];exact hi))
def qS {m:aw} (h1:1<=m.kind/\m.kind<=10) (h2:kH m.aY=true) (h3:kH m.to=true) (h4:0<=m.call/\m.call<=99) (h5:cY m.key=true) (h6:jO m.ax=true) (h7:0<=m.val/\m.val<=9999) (h8:bP m.aS=true) (h9:0<=m.slot/\m.slot<=2)
 (AT:0<=m.bU/\m.bU<=9999) (uS:bY m.ar=true) (yo:bY m.waits=true) (V8:fD m.aE=true):bQ m=true:=by
 simp only[bQ,Bool.and_eq_true,aQ,decide_eq_true_eq];exact⟨⟨⟨⟨⟨⟨⟨⟨⟨⟨⟨⟨h1,h2⟩,h3⟩,h4⟩,h5⟩,h6⟩,h7⟩,h8⟩,h9⟩,AT⟩,uS⟩,yo⟩,V8⟩
def nq {n:Int} (h:cQ n=true):kH n=true:=by unfold kH;rw[h];rfl
def mI {n:Int}:cQ n=true↔0<=n/\n<=3:=by simp[cQ,aQ]
def Mt {n:Int} (h:cQ n=true):cQ (eS n)=true:=by
 rw[mI] at*;unfold eS;split<;>omega
def nr:bY []=true:=rfl
def tN:fD []=true:=rfl
def V9 {v:aD} (h:eD v=true):bY [v]=true:=tp.2 ⟨by simp,by simpa using h,by simp[VS]⟩
def Mu {o:Option aD} (h:∀v,o=some v->eD v=true):bY o.toList=true:=by
 cases o with
 |none=>rfl
 |some v=>exact V9 (h v rfl)
def yp {s:cA} (h:c7 s=true):jO s=true:=by unfold jO;rw[h];simp
def Fh:cY 0=true:=rfl
def yq:jO ⟨0,0⟩=true:=rfl
def pL:bP []=true:=rfl
def Mv {s:Server} {m:aw} (h:bA s) (hm:bQ m=true) {st:cA} (U:c7 st=true):bQ (kW s m st)=true:=by
 have p:=nj hm;exact qS ⟨by simp[kW],by simp[kW]⟩ (nq h.site) p.2.1 p.2.2.2.1 p.2.2.2.2.1 (yp U) ⟨by simp[kW,bW],by simp[kW,bW]⟩ pL ⟨by simp[kW,bW],by simp[kW,bW]⟩ ⟨by simp[kW,bW],by simp[kW,bW]⟩ nr nr tN
def Mw {s:Server} {m:aw} (h:bA s) (hm:bQ m=true) {v:aD} (hv:eD v=true):bQ (kY s m v)=true:=by
 have p:=nj hm;have q:=jL hv;exact qS ⟨by simp[kY],by simp[kY]⟩ (nq h.site) p.2.1 ⟨by simp[kY,bW],by simp[kY,bW]⟩ q.1 (yp q.2.1) ⟨by simp[kY,bW],by simp[kY,bW]⟩ pL ⟨by simp[kY,bW],by simp[kY,bW]⟩ ⟨by simp[kY,bW],by simp[kY,bW]⟩ nr nr tN
def Wa {s:Server} {m:aw} (h:bA s) (hm:bQ m=true):∀w∈(gY s m).2,bQ w=true:=by
 unfold gY;split
 .rename_i hr;have hv:eD (ab m.ar 0)=true:=gP (mD hm).1 _ (bB (by rw[(AO hr).2.2.1];omega));dsimp only;split
  .split
   .intro w hw;obtain rfl:w=_:=by simpa using hw
    exact Mw h hm hv
   intro w hw;simp at hw
  intro w hw;obtain rfl:w=_:=by simpa using hw
  exact Mw h hm hv
 intro w hw;simp at hw
def Wb {s:Server} (h:bA s) {i:Nat} (hi:i<3):0<=(ab s.aN i).bU/\(ab s.aN i).bU<=9999:=by
 have:=tM.1 (Bh h hi);exact⟨this.1,this.2.1⟩
def Fi {s:Server} (h:bA s) {slot:Int} (h0:0<=slot) (h2:slot<=2):bQ (gj s slot)=true:=by
 have hr:=Wb h (i:=slot.toNat) om;exact qS ⟨by simp[gj],by simp[gj]⟩ (nq h.site) (nq (Mt h.site)) ⟨by simp[gj,bW],by simp[gj,bW]⟩ Fh yq ⟨by simp[gj,bW],by simp[gj,bW]⟩ pL ⟨h0,h2⟩ hr (xU h.ar List.filter_sublist) (xU h.waits List.filter_sublist) (Bg h.aE List.filter_sublist)
def Fj {n:Int} (h:cQ n=true):ct n=n/2/\0<=ct n/\ct n<=1:=by
 have h1:=mI.1 h;unfold ct;rw[h,if_pos rfl];omega
def Wc {s:Server} (h:bA s) {d:an} (hd:jP d=true):bQ (kt s d)=true:=by
 simp only[jP,Bool.and_eq_true] at hd;exact qS ⟨by simp[kt],by simp[kt]⟩ (nq h.site) (nq (Mt h.site)) ⟨by simp[kt,bW],by simp[kt,bW]⟩ hd.1 (yp hd.2) ⟨by simp[kt,bW],by simp[kt,bW]⟩ pL ⟨by simp[kt,bW],by simp[kt,bW]⟩ ⟨by simp[kt,bW],by simp[kt,bW]⟩ nr nr tN
def Wd {s:Server} (h:bA s) {i:Nat} (hi:i∈leaving s):i<3:=by
 have:=List.mem_range.1 (qK hi);rw[h.aN] at this;exact this
def tO {m:aw} (h:bQ m=true):iY m:=by
 have p:=nj h;refine⟨by have:=dY p.2.2.2.2.2.2.2.1;omega,sd p.2.2.2.2.2.2.2.2.2.2.1,sd p.2.2.2.2.2.2.2.2.2.2.2.1,by have:=gZ p.2.2.2.2.2.2.2.2.2.2.2.2;omega⟩
def bA.small {s:Server} (h:bA s):ou s:=h.ok.small (by have:=gZ h.aE;omega)
def se {m:aw} (h:bQ m=true):0<=m.aY/\m.aY<=11/\0<=m.to/\m.to<=11:=by
 have p:=nj h;have h1:=p.2.1;have h2:=p.2.2.1;simp only[kH,cQ,aQ,Bool.or_eq_true,Bool.and_eq_true,decide_eq_true_eq] at h1 h2;omega
def Bi {q:Call} {key:Int}:0<=cE q key↔∃a∈q.az,a.key=key:=by
 have:=EE (p:=qD key) (l:=q.az);unfold hasB at this;rw[decide_eq_true_eq] at this;unfold cE;rw[this];simp[qD]
def wa {q:Call} (h:g0 q=true):q.end_=0/\q.over=false:=by
 unfold g0 at h;simpa using h
def Mx {α:Type} [Inhabited α] {l:List α} {i:Nat} {a x:α} (h:x∈l.set i a):x=a\/∃k,k<l.length/\k≠i/\x=ab l k:=by
 obtain⟨k,hk,rfl⟩:=List.getElem_of_mem h;rw[List.length_set] at hk;by_cases e:i=k
 .subst e;left;simp
 right;refine⟨k,hk,λe'=>e e'.symm,?_⟩;rw[List.getElem_set_ne e];simp[ab,hk]
def We {α:Type} [Inhabited α] {l:List α} {i k:Nat} {a:α} (h:k<l.length) (bH:k≠i):ab l k∈l.set i a:=by
 rw[List.mem_iff_getElem];refine⟨k,by simpa using h,?_⟩;rw[List.getElem_set_ne (λe=>bH e.symm)];simp[ab,h]
def My (p:an->Bool):∀{l:List an} {last:Int},dm last l=true->dm last (l.filter p)=true
 |[],_,_=>rfl
 |d::r,last,h=>by
  simp only[dm,Bool.and_eq_true] at h;have ih:=My p h.2;have hd:=h.1.1;simp only[aQ,Bool.and_eq_true,decide_eq_true_eq] at hd;by_cases hp:p d=true
  .rw[List.filter_cons_of_pos hp];simp only[dm,Bool.and_eq_true];exact⟨h.1,ih⟩
  rw[List.filter_cons_of_neg hp];cases hr:r.filter p with
  |nil=>rfl
  |cons e r'=>
   rw[hr] at ih
   simp only[dm,Bool.and_eq_true,aQ,decide_eq_true_eq] at ih⊢
   exact⟨⟨⟨by omega,ih.1.1.2⟩,ih.1.2⟩,ih.2⟩
def Wf {l:List Call} {i:Nat} {x:Call} (h:i<l.length) (hx:x.aA=(ab l i).aA) (k:Nat) (y:Int):fT (l.set i x) k y=fT l k y:=by
 have e:((l.set i x).map Call.aA)=l.map Call.aA:=by
  rw[List.map_set];apply List.ext_getElem
  .simp
  intro n Wg uO;by_cases e:i=n
  .subst e;rw[List.getElem_set_self,List.getElem_map,hx];simp[ab,h]
  rw[List.getElem_set_ne e]
 have e2:∀l:List Call,fT l k y=((((l.map Call.aA).take k).filter λd=>d==y).length:Nat):=λl=>by
  unfold fT;rw[<-List.map_take,List.filter_map,List.length_map];rfl
 rw[e2,e2,e]
def cr.Wh {w:aJ} (h:cr w) (i:Nat) {l:List an} (hl:bP l=true):cr {w with seen:=w.seen.set i l}:=
 ⟨h.time,h.aC,h.site,h.au,h.words,by show(w.seen.set _ _).length=2;rw[List.length_set];exact h.seen,λx hx=>by
  rcases List.mem_or_eq_of_mem_set hx with hx|rfl
  .exact h.od x hx
  exact hl,h.calls⟩
def Wi {n:Int} (h:cQ n=true):pt n 1=eS n:=by
 have:=mI.1 h;obtain rfl|rfl|rfl|rfl:n=0\/n=1\/n=2\/n=3:=by omega
 all_goals rfl
def Wj {a b:an} (h:dF a b=true):dF b a=false:=by
 cases h2:dF b a
 .rfl
 have:=xM h h2;rw[AD] at this;cases this
def Mz:∀{l:List an} {d:an} {k:Nat},k<=l.length->(∀i,i<k->dF (ab l i) d=true)->(k<l.length->dF (ab l k) d=false)->(∀x∈l,x≠d)->l.take k++d::l.drop k=jw l d
 |[],d,k,hk,_,_,_=>by obtain rfl:k=0:=by simpa using hk
                      rfl
 |e::r,d,0,_,_,hn,bH=>by
  have h1:dF e d=false:=hn bt;have h2:dF d e=true:=by
   cases h3:dF d e
   .exact absurd (AB h1 h3) (bH e bt)
   rfl
  simp[jw,h2]
 |e::r,d,k+1,hk,h,hn,bH=>by
  have h2:dF d e=false:=Wj (h 0 om);have ih:=Mz (l:=r) (d:=d) (k:=k) (by simpa using hk) (λi hi=>h (i+1) om) (λhl=>hn (by simpa using hl)) (λx hx=>bH x (by simp[hx]));simp[jw,h2,ih]
def MA {l:List an} {d:an} (h:gh l d<0):∀x∈l,x≠d:=λx hx e=>by
 have:=vH.2 (e▸hx);omega
def Fk (n:Int) (h:cQ n=true):
 Fn prog 294 [AV.int n] (AV.int (eS n)):=by
 refine Fn.go 5 func294 ntmps294 (λW I a U=>?_);refine aF λI a w U=>?_;refine U.o (JT .tt .c (λ_=>by have:=mI.1 h;omega)) λU=>?_;refine bk ?_;exact eW (Wi h)
def qT (s:Server) (m x:aw) (h:iY x):
 Fn prog 347 [s.av,m.av,x.av] (cU [{x with aY:=s.site,to:=m.aY}]):=by
 refine Fn.go 16 func347 ntmps347 (λW I a U=>?_);refine aF λI a w U=>?_;refine U.box rfl .tt λb5 I a w U=>?_;refine ao λI a w U=>?_;refine U.db (rp 5 [([0],some (0,[])),([],none),([0],some (0,[]))]) aP aP rfl ?_;refine eP ?_;refine aI.de (x:=AV.any) 0 (λF W0 I0 I γ a w Q U kk=>U.s1 0 λU=>kk _ _ _ U) ?_;refine aW ?_;refine aI.de (x:=AV.any) 0 (λF W0 I0 I γ a w Q U kk=>U.s1 0 λU=>kk _ _ _ U) ?_;refine .nil ?_;intro I a w U;refine bw λI a w U=>?_;refine U.o (.c1 (yn {x with aY:=s.site,to:=m.aY} h)) λU=>?_;refine U.o (.li [({x with aY:=s.site,to:=m.aY}:aw).cells] fo (.u .nil)) λU=>?_;refine bk ?_;rfl
def MB (s:Server) (m:aw):(!cQ m.aY||(ct m.aY==ct s.site)||decide (gh s.aE ⟨m.key,m.ax⟩<0)||((ab s.aN (gS m.key).toNat).eH !=1))=
 !(cQ m.aY&&(ct m.aY !=ct s.site)&&decide (0<=gh s.aE ⟨m.key,m.ax⟩)&&(eB s m.key==1)):=by
 have e:decide (gh s.aE ⟨m.key,m.ax⟩<0)=!decide (0<=gh s.aE ⟨m.key,m.ax⟩):=by rw[Bool.eq_iff_iff];simp
 rw[e];simp[bne,eB]
def MC (s:Server) (m:aw):((m.aY !=eS s.site)||((ab s.aN m.slot.toNat).eH !=2)||((ab s.aN m.slot.toNat).bU !=m.bU))=
 !((m.aY==eS s.site)&&((ab s.aN m.slot.toNat).eH==2)&&((ab s.aN m.slot.toNat).bU==m.bU)):=by simp[bne]
def Bj (s:Server) (m:aw):(!aQ m.aY 10 11||decide (m.call<1)||!fw s m.key)=!(aQ m.aY 10 11&&decide (1<=m.call)&&fw s m.key):=by
 have e:decide (m.call<1)=!decide (1<=m.call):=by rw[Bool.eq_iff_iff];simp
 rw[e];simp
def MD (s:Server) (slot:Int) (h1:bY s.ar=true) (h2:bY s.waits=true) (ho:s.aE.length<=80):
 Fn prog 339 [s.av,AV.int slot] ((eb s slot).av):=by
 refine Fn.go 51 func339 ntmps339 (λW I a U=>?_);have lens:s.aN.length<=9223372036854775807/\s.ar.length<=9223372036854775807/\s.waits.length<=9223372036854775807/\s.aE.length<=9223372036854775807/\s.bn.length<=9223372036854775807:=⟨U.ln 0 2,U.ln 0 3,U.ln 0 4,U.ln 0 5,U.ln 0 6⟩;refine sr<|U.box rfl .tt λb2 I a w U=>U.alloc rfl ck c9 λb4 I a w U=>?_;refine bc λI a w U=>?_;refine U.o (.cl (AL _ _ h1)) λU=>?_;refine j3 λI a w U=>?_;refine U.o (.cl (AL _ _ h2)) λU=>?_;refine cn λI a w U=>?_;refine U.l0 λWk I a w U=>?_;refine aq λI a w U=>?_;refine St.lo (σ:=Nat×Value) (run 2 5 (run 24 24 [])) ⟨λ⟨k,v⟩=>[(6,AV.int k),(5,AV.val v)],λ⟨k,v⟩=>[Own.box b2 95 [AV.int s.site,AV.bool s.up,qj s.aN,bV (s.ar.filter λv=>!eR slot v),bV (s.waits.filter λv=>!eR slot v),bf s.aE,bf s.bn],Own.box b4 95 [AV.val (.int .i64 0),AV.val (.bool false),AV.rows 2 [],AV.rows 7 [],AV.rows 7 [],AV.rows 3 [],AV.rows 3 []],Own.row v 125 3 (((s.aE.take k).filter (λd=>!gi slot d)).map an.cells)],λ⟨k,v⟩=>k<=s.aE.length⟩ (λ⟨k,v⟩=>s.aE.length-k) (0,.slice (some ⟨Wk,0,none⟩) 0 0) U ?aH ?bx;case aH=>exact Nat.zero_le _
 rintro⟨k,v⟩ I a w al U;have hk:k<=s.aE.length:=al;have jr:=pF (λd=>!gi slot d) s.aE k;dsimp only at U;refine cn λI a w U=>?_;refine cz (λae=>?_) λae=>?_
 .refine dp λI a w U=>?_;refine U.o (.c1 (rM ..)) λU=>?_;refine aq λI a w U=>?_;refine U.cd (λah=>?_) λah=>?_
  .change(λd=>!gi slot d) (ab s.aE k)=true at ah;refine dp λI a w U=>?_;refine U.o (.li [(ab s.aE k).cells] eJ (.u .nil)) λU=>?_;refine U.ap 2 λyr a w U=>?_;rw[bN,<-lP (p:=(λd=>!gi slot d)) ae ah] at U;refine aV λI a w U=>?_;exact U.ag (k+1,yr) (ae)
  change(λd=>!gi slot d) (ab s.aE k)=false at ah;refine aM λI a w U=>?_;rw[show(s.aE.take k).filter (λd=>!gi slot d)=(s.aE.take (k+1)).filter (λd=>!gi slot d) from(lQ ae ah).symm] at U;exact U.ag (k+1,v) (ae)
 refine zt ?_;refine U.m λU=>?_;obtain⟨I,U⟩:=U.fr 2 48;refine aV λI a w U=>?_;refine U.ret rfl (.cons (.sx 1) aX.nil) ?_;exact(by rw[show s.aE.take k=s.aE from List.take_of_length_le om];rfl)
def ME (s:Server) (m:aw):(!iW (jl s m)||!fW s.ar (gm s m)||decide (80<=(s.aE.length:Int)))=!(iW (jl s m)&&fW s.ar (gm s m)&&decide (s.aE.length<80)):=by
 have e:decide (80<=(s.aE.length:Int))=!decide (s.aE.length<80):=by rw[Bool.eq_iff_iff];simp;omega
 rw[e];simp
def Bk {s:Server} {m:aw} (h:(gf s.ar m.key).isSome=false):m.aS.map an.ax=jl s m:=by
 have e:gf s.ar m.key=none:=by cases hh:gf s.ar m.key;rfl;rw[hh] at h;cases h
 unfold jl;rw[e];simp
def Wl {s:Server} {m:aw} (h:(aQ m.aY 10 11&&decide (1<=m.call)&&fw s m.key)=false):gX s m=(s,[]):=by unfold gX;rw[h];rfl
def MF {s:Server} {m:aw} (h:(aQ m.aY 10 11&&decide (1<=m.call)&&fw s m.key)=true) (hv:(jT s m.key (m.aY-10) m.call).isSome=false) (hf:(iW (jl s m)&&fW s.ar (gm s m)&&decide (s.aE.length<80))=true):
 gX s m=(gW {s with ar:=ej s.ar (gm s m),aE:=ek s.aE (gm s m).bG},[kW s m (gm s m).ax]):=by
 have hv:=xZ (o:=jT s m.key (m.aY-10) m.call) (by rw[hv];rfl);unfold gX;rw[h,hv];dsimp only;rw[hf];rfl
def Bl (s:Server) (m:aw):(!s.up||!bQ m||(m.to !=s.site))=!(s.up&&bQ m&&(m.to==s.site)):=by simp[bne]
def Wm (a b:Nat):decide ((a:Int)+b<=80)=decide (a+b<=80):=by rw[Bool.eq_iff_iff];simp;omega
def MG {s:Server} (h:¬s.ar.length<80):eK s<0:=by unfold eK;rw[if_neg h];decide
def Bm (s:Server):(!gL s||!s.up)=!(gL s&&s.up):=by simp
def tP (k t c:Int) (st:cA) (v:Int) (sl e:Int):iY ⟨k,0,0,c,t,st,v,false,[],sl,e,[],[],[]⟩:=⟨Nat.zero_le _,⟨Nat.zero_le _,λ_ h=>by cases h⟩,⟨Nat.zero_le _,λ_ h=>by cases h⟩,Nat.zero_le _⟩
def MH {q:Call} {t:Int} (h:eY q (q.bq+q.end_)=true) (he:0<=q.end_):(!eY q (q.bq+q.end_)||decide (0<q.end_)||q.over)=!g0 q:=by
 rw[h];unfold g0;have e:decide (0<q.end_)=!(q.end_==0):=by rw[Bool.eq_iff_iff];simp;omega
 rw[e];simp
def MI {m:aw} (h1:m.aS=[]) (h2:m.ar=[]) (h3:m.waits=[]) (h4:m.aE=[]):iY m:=by
 unfold iY;rw[h1,h2,h3,h4];simp[sa]
def Fl (q:Call):
 Fn prog 287 [q.av] (AV.bool (g0 q)):=by
 refine Fn.go 11 func287 ntmps287 (λW I a U=>?_);refine Ac λI a w U=>?_;refine U.rt ?_;exact bI (by unfold g0;rfl)
def nu (q:Call) (a:Answer) (k:Nat):List an:=(q.aL.take k).filter λd=>decide (d≠a.bF.bG)
def Wn {q:Call} {a:Answer} {k:Nat} (h:k<q.aL.length) (he:ab q.aL k=a.bF.bG):nu q a k=nu q a (k+1):=(lQ h (by simp[he])).symm
def Wo {q:Call} {a:Answer} {k:Nat} (h:k<q.aL.length) (he:ab q.aL k≠a.bF.bG):nu q a k++[ab q.aL k]=nu q a (k+1):=(lP h (by simp[he])).symm
def Wp (q:Call) (a:Answer) (k:Nat):(nu q a k).length<=q.aL.length:=pF _ _ _
def MJ (q:Call) (m:aw) (t:Int) (he:0<=q.end_):(!bQ m||(m.to !=10+q.aA)||(m.call !=q.num)||!gz q.keys m.key||decide (0<q.end_)||q.over||decide (t<=q.bq))=
 !(bQ m&&(m.to==10+q.aA)&&(m.call==q.num)&&gz q.keys m.key&&g0 q&&decide (q.bq<t)):=by
 have e1:decide (0<q.end_)=!(q.end_==0):=by rw[Bool.eq_iff_iff];simp;omega
 have e2:decide (t<=q.bq)=!decide (q.bq<t):=by rw[Bool.eq_iff_iff];simp
 unfold g0;rw[e1,e2];simp[bne,Bool.or_assoc]
def MK (q:Call) (x:Answer) (k:Nat):(((((nu q x k).map an.cells).length:Int)==0)&&decide (0<(q.aL.length:Int)))=decide (nu q x k=[]/\q.aL≠[]):=by
 rw[List.length_map,Bool.eq_iff_iff];simp;intro _;exact⟨λh e=>by rw[e] at h;simp at h,λh=>by cases hq:q.aL with|nil=>exact absurd hq h|cons _ _=>simp⟩
def Fm (a:Act):Nat:=match a.tmps.getD 3 undef with|.int _ x=>(x+1).toNat|_=>0
def ML {c:Ctx} {I:Im} {H:List Own} {Γ:Env} {a:Act} {w:World} {k:Nat} (U:St c I H Γ a w) (h:Env.get 3 Γ=some (.int ((k:Int)-1)):=by rfl):Fm a=k:=by
 have:=U.env 3 _ h;unfold Fm;rw[show a.tmps.getD 3 undef=_ from this];simp
def Fo (r:List Value):List AV:=[.val (r.getD 0 undef),.val (r.getD 1 undef),.val (r.getD 2 undef),.val (r.getD 3 undef),.val (r.getD 4 undef),.val (r.getD 5 undef),.val (r.getD 6 undef)]
def MM {r:List Value} (h:r.length=7):r.map AV.val=Fo r:=by
 match r,h with
 |[a,b,c,d,e,f,g],_=>rfl
def MN {s:Server} {m:aw} {y:Bool} {v:aD} (h:v.aS.length<=1048576):iY ⟨4,0,0,m.call,m.key,m.ax,0,y,[],0,0,[v],[],[]⟩:=⟨Nat.zero_le _,⟨by simp,λx hx=>by obtain rfl:=List.mem_singleton.1 hx;exact h⟩,⟨Nat.zero_le _,λ_ h=>by cases h⟩,Nat.zero_le _⟩
def MO {s:Server} {m:aw} {k:Nat} (hk:k<s.ar.length) (h:∀i,i<k->oc s m.key (m.aY-10) m.call (ab s.ar i)=false) (hp:oc s m.key (m.aY-10) m.call (ab s.ar k)=true):jT s m.key (m.aY-10) m.call=some (ab s.ar k):=Mp hk h hp
def Fp {s:Server} {m:aw} {k:Nat} (hk:s.ar.length<=k) (h:∀i,i<k->oc s m.key (m.aY-10) m.call (ab s.ar i)=false):(jT s m.key (m.aY-10) m.call).isSome=false:=by unfold jT;rw[Mq hk h];rfl
def MP {s:Server} {m:aw} (h:(m.kind==9&&(m.aY==eS s.site)&&decide (0<m.bU))=true):m.kind=9/\((m.aY==eS s.site)&&decide (1<=m.bU))=true:=by
 simp only[Bool.and_eq_true,beq_iff_eq,decide_eq_true_eq] at h⊢;exact⟨h.1.1,h.1.2,by omega⟩
def wb {m:aw} {k:Int} {b:Bool} (h:(m.kind==k&&b)=false) (hk:m.kind=k):b=false:=by rw[hk,beq_self_eq_true,Bool.true_and] at h;exact h
def gN (w:aJ) (e:Ev):List aw:=if e.kind=5\/e.jd=0 then w.au.take e.word.toNat++w.au.drop (e.word.toNat+1) else w.au
def MQ {w:aJ} (h:cr w) (e:Ev):cr {w with au:=gN w e}:=by
 unfold gN;split
 .have U:=xV w.au e.word.toNat;exact⟨h.time,h.aC,h.site,Nat.le_trans U.length_le h.au,λm hm=>h.words m (U.subset hm),h.seen,h.od,h.calls⟩
 exact h
def Wq (w:aJ) (e:Ev):(if e.kind=5\/e.jd=0 then{w with au:=w.au.take e.word.toNat++w.au.drop (e.word.toNat+1)} else w)={w with au:=gN w e}:=by unfold gN;split<;>rfl
def nv (bs:List UInt8) (i:Int):Int:=((ab bs i.toNat).toNat:Int)
def tQ (bs:List UInt8) (k:Int):Int:=nv bs (k%bs.length)*131+nv bs ((k*7+3)%bs.length)*1117+k*29+k/bs.length*53
def bE (bs:List UInt8) (p n:Int):Int:=
 if n<1\/bs.length=0 then 0 else if p<bs.length then nv bs p%n else pt (tQ bs p) (tQ bs p/64)%n
def lS (bs:List UInt8) (i:Int):0<=nv bs i:=Int.natCast_nonneg _
def lT (bs:List UInt8) (i:Int):nv bs i<256:=by have:=(ab bs i.toNat).toNat_lt;unfold nv;omega
def gB (bs:List UInt8) (p n:Int):0<=bE bs p n:=by
 unfold bE;split
 .omega
 rename_i h;split
 .exact Int.emod_nonneg _ om
 exact Int.emod_nonneg _ om
def gR (bs:List UInt8) (p:Int) {n:Int} (h:0<n):bE bs p n<n:=by
 unfold bE;split
 .omega
 split
 .exact Int.emod_lt_of_pos _ h
 exact Int.emod_lt_of_pos _ h
def iq (bs:List UInt8) (p:Int) {n:Int} (h:0<n):0<=bE bs p n/\bE bs p n<n:=⟨gB ..,gR bs p h⟩
def gn (bs:List UInt8) (p n:Int) (h:n<=4611686018427387904):0<=bE bs p n/\bE bs p n<4611686018427387904:=by
 refine⟨gB ..,?_⟩;by_cases h0:0<n
 .have:=gR bs p h0;omega
 unfold bE;rw[if_pos om];omega
def tT {k m:Int} (hk:0<=k) (hm:0<m):0<=k/m/\k/m<=k:=⟨Int.ediv_nonneg hk om,Int.ediv_le_self _ hk⟩
def Wr {bs:List UInt8} {k:Int} (h0:0<=k) (h1:k<=1099511627776) (hb:bs.length≠0):0<=tQ bs k/\tQ bs k<4611686018427387904:=by
 have h2:=lS bs (k%bs.length);have h3:=lT bs (k%bs.length);have h4:=lS bs ((k*7+3)%bs.length);have h5:=lT bs ((k*7+3)%bs.length);have h6:=tT (k:=k) (m:=bs.length) h0 om;unfold tQ;omega
def Fq (x:UInt8):List AV:=[AV.byte x]
def cy (l:List UInt8):AV:=.rows 1 (l.map Fq)
def Ws {bs:List UInt8} {p n:Int} (h:(decide (n<1)||((bs.length:Int)==0))=true):0=bE bs p n:=by
 simp only[Bool.or_eq_true,decide_eq_true_eq,beq_iff_eq] at h;unfold bE;rw[if_pos om]
def Wt (l:List aD) (h:l.length<=1048576) (hd:∀y∈l,y.aS.length<=1048576):
 gO prog 245 [bV l] 54 7 (l.map aD.cells):=by
 refine gO.intro 21 func245 rfl ntmps245 rfl aP (λW I a U=>?_);have hle:=U.eh (t:=0) rfl;refine ao λI a w U=>?_;refine U.l0 λb5 I a w U=>?_;refine aq λI a w U=>?_;refine St.lo (σ:=Nat×Value) (run 2 3 (run 14 6 [])) ⟨λ⟨k,v⟩=>[(4,AV.int k),(3,AV.val v)],λ⟨k,v⟩=>[Own.row v 54 7 ((l.take k).map aD.cells)],λ⟨k,v⟩=>k<=l.length⟩ (λ⟨k,v⟩=>l.length-k) (0,.slice (some ⟨b5,0,none⟩) 0 0) U ?aH ?bx;case aH=>exact Nat.zero_le _
 rintro⟨k,v⟩ I a w al U;have hk:k<=l.length:=al;dsimp only at U;refine aV λI a w U=>?_;refine cz (λae=>?_) λae=>?_
 .refine bK λI a w U=>?_;refine U.o (.c1 (j4 (ab l k) (hd _ (bB ae)))) λU=>?_;refine U.o (.li [(ab l k).cells] iy (.u .nil)) λU=>?_;refine U.ap 0 λj6 a w U=>?_;rw[bN,<-dO ae] at U;refine aV λI a w U=>?_;exact U.ag (k+1,j6) (ae)
 refine zt ?_;refine aq λI a w U=>?_;exact U.nO (r:=2) 0 rfl rfl rfl (by rw[List.take_of_length_le om])
def pM (v:aD):Prop:=v.aS.length<=6
def j8 (x:Int):Prop:=-1<=x/\x<=100000
def ec {l:List Int} {i:Nat} (h:∀x∈l,j8 x):j8 (ab l i):=by
 by_cases hi:i<l.length
 .exact h _ (bB hi)
 unfold ab;rw[List.getD_eq_getElem?_getD,List.getElem?_eq_none om];exact⟨by decide,by decide⟩
def ee {l:List Int} (h:l.all (λx=>decide (-1<=x)&&decide (x<=100000))=true):∀x∈l,j8 x:=λx hx=>by
 have:=List.all_eq_true.1 h x hx;simp only[Bool.and_eq_true,decide_eq_true_eq] at this;exact this
end Go.Proofs.YtldbakcpcfdlaaaGreat
