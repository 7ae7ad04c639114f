/- Part 25: contracts of functions, plain facts. -/
import Derived.Test.YtldbakcpcfdlaaaGreatA20
import Derived.Test.YtldbakcpcfdlaaaGreatA22
set_option linter.all false
set_option maxRecDepth 100000
set_option maxHeartbeats 4000000
namespace Go.Proofs.YtldbakcpcfdlaaaGreat
open Go Go.RowKit Tryz
attribute [local irreducible] wpList Code.wp Ok
def ZP (u v:aD):
 Fn prog 62 [u.av,v.av] (AV.bool (pB u v)):=by
 refine Fn.go 65 func62 ntmps62 (λW I a U=>?_);have lens:u.aS.length<=9223372036854775807/\v.aS.length<=9223372036854775807:=by
  obtain⟨cs,_,hc⟩:=U.env 0 _ rfl;obtain⟨u1,_,h1,_⟩:=hc.get (i:=6) rfl;obtain⟨T9,_,l9⟩:=U.env 1 _ rfl;obtain⟨u2,_,h2,_⟩:=l9.get (i:=6) rfl;exact⟨xd h1,xd h2⟩
 refine tc λI a w U=>?_;refine U.q .F (sR [_,_] [_,_] mu rfl rfl .ag .ag) λU=>?_;refine SG λI a w U=>?_;refine U.cd (λae=>?_) λae=>?_
 .replace ae:r5 u v=false:=by unfold r5;rw[ae];rfl
  refine bk ?_;exact bI (by rw[F5,ae];rfl)
 replace ae:r5 u v=true:=by unfold r5;rw[ae];rfl
 refine aV λI a w U=>?_;refine St.lo (σ:=Nat) (run 3 4 (run 13 52 [])) ⟨λk=>[(52,AV.int k)],λk=>[],λk=>k<=u.aS.length/\∀i,i<k->(Bd u v) i=true⟩ (λk=>u.aS.length-k) 0 U ?aH ?bx;case aH=>exact⟨Nat.zero_le _,λi hi=>by omega⟩
 rintro k I a w al U;obtain⟨pE,aU⟩:=al;refine ao λI a w U=>?_;refine cz (λah=>?_) λah=>?_
 .refine bc λI a w U=>?_;refine U.alloc rfl cx ez λb6 I a w U=>?_;refine aq λI a w U=>?_;obtain⟨I,U⟩:=U.fb 0 6;refine U.dk ?_;refine dq ?_;refine .o ((by first|exact dE c4 cx .tt .tt (λ_=>by have:=E0 ae;omega)|exact eG c4 cx .tt .tt (λ_=>by have:=E0 ae;omega)|exact eM c4 cx .tt .tt (λ_=>by have:=E0 ae;omega))) ?_;refine aW ?_;refine .o (sR [_,_,_] [_,_,_] vj rfl rfl .tt .tt)<|.nil ?_;intro I a w U;refine ba ?_;refine U.cd (λaj=>?_) λaj=>?_
  .rw[LV] at aj;replace aj:=nt aj;refine bk ?_;exact bI (by rw[F5,eX (f:=Bd u v) ah aj];simp)
  rw[LV] at aj;replace aj:=nf aj;refine aq λI a w U=>?_;have U:=U.drop 0;exact U.ag (k+1) (⟨by omega,fO aU aj⟩)
 refine zt ?_;refine bk ?_;exact bI (by rw[F5,ae,eO aU om];rfl)
def ZQ (q:Call):
 Fn prog 227 [q.av] (AV.bool (nb q)):=by
 refine Fn.go 100 func227 ntmps227 (λW I a U=>?_);have lens:q.keys.length<=9223372036854775807/\q.az.length<=9223372036854775807/\q.aL.length<=9223372036854775807:=⟨U.ln 0 3,U.ln 0 11,U.ln 0 12⟩;refine iU λI a w U=>?_;refine St.lo (σ:=Nat) (run 3 2 (run 56 11 [])) ⟨λk=>[(11,AV.int k)],λk=>[],λk=>k<=q.az.length/\∀i,i<k->(m8 q) i=true⟩ (λk=>q.az.length-k) 0 U ?aH ?bx;case aH=>exact⟨Nat.zero_le _,λi hi=>by omega⟩
 rintro k I a w al U;obtain⟨pE,aU⟩:=al;refine ao λI a w U=>?_;refine cz (λae=>?_) λae=>?_
 .refine bc λI a w U=>?_;refine U.alloc rfl eI m5 λb4 I a w U=>?_;refine aq λI a w U=>?_;obtain⟨I,U⟩:=U.fb 0 4;refine U.dk ?_;refine dq ?_;refine .o (.cl (Mj ..)) ?_;refine mq ?_;refine aW ?_;refine .nil ?_;intro I a w U;refine ba ?_;refine U.cd (λah=>?_) λah=>?_
  .rw[E7] at ah;replace ah:=nt ah;refine bk ?_;exact bI (by unfold nb lM;rw[eX (f:=m8 q) ae (by unfold m8;rw[ah];rfl)];rfl)
  rw[E7] at ah;replace ah:=nf ah;refine bK λI a w U=>?_;refine U.q .T (.cl (EN ..)) λU=>?_;refine Kj λI a w U=>?_;refine U.q .T2 (.bd dy aT.nil) λU=>?_;refine U.q .T2 (.cl (ZP _ rP)) λU=>?_;refine aM λI a w U=>?_;refine U.cd (λaj=>?_) λaj=>?_
  .rw[LP] at aj;replace aj:=nt aj;refine bk ?_;exact bI (by unfold nb lM;rw[eX (f:=m8 q) ae (by unfold m8;rw[ah,aj];rfl)];rfl)
  rw[LP] at aj;replace aj:=nf aj;refine aq λI a w U=>?_;have U:=U.drop 0;exact U.ag (k+1) (⟨by omega,fO aU (by unfold m8;rw[ah,aj];rfl)⟩)
 refine zt ?_;refine aV λI a w U=>?_;refine St.lo (σ:=Nat) (2::(run 2 6 (run 22 70 []))) ⟨λk2=>[(70,AV.int k2)],λk2=>[],λk2=>k2<=q.aL.length/\∀i,i<k2->(nY q) i=true⟩ (λk2=>q.aL.length-k2) 0 U ?dC ?iJ;case dC=>exact⟨Nat.zero_le _,λi hi=>by omega⟩
 rintro k2 I a w al U;obtain⟨vC,iK⟩:=al;refine ao λI a w U=>?_;refine cz (λaG=>?_) λaG=>?_
 .refine aF λI a w U=>?_;refine U.alloc rfl cx ez λb6 I a w U=>?_;refine ao λI a w U=>?_;obtain⟨I,U⟩:=U.fb 0 6;refine bc λI a w U=>?_;refine U.o (.c2 (Lz ..)) λU=>?_;refine ao λI a w U=>?_;refine U.dk ?_;refine gw ?_;refine .q .F ((by first|exact dE gy eI .ag .ag (λhg=>by have h0:0<=cE q (ab q.aL k2).key:=(by simpa using hg);have:=sg h0;omega)|exact eG gy eI .ag .ag (λhg=>by have h0:0<=cE q (ab q.aL k2).key:=(by simpa using hg);have:=sg h0;omega)|exact eM gy eI .ag .ag (λhg=>by have h0:0<=cE q (ab q.aL k2).key:=(by simpa using hg);have:=sg h0;omega))) ?_;refine dw ?_;refine .q .F (.cl (Ml ..)) ?_;refine cg ?_;refine .nil ?_;intro I a w U;refine ba ?_;refine U.cd (λaK=>?_) λaK=>?_
  .rw[Lu] at aK;replace aK:=nt aK;refine bk ?_;exact bI (by unfold nb lM;rw[eO aU om,eX (f:=nY q) aG aK];rfl)
  rw[Lu] at aK;replace aK:=nf aK;refine aq λI a w U=>?_;have U:=U.drop 0;exact U.ag (k2+1) (⟨by omega,fO iK aK⟩)
 refine zt ?_;refine dp λI a w U=>?_;refine U.q .F (.cl (LU ..)) λU=>?_;refine dh ?_;exact bI (by unfold nb lM;rw[eO aU om,eO iK om];rfl)
def Gz (w:aJ) (e:Ev):(eU w e).1.time=w.time+1:=by
 unfold eU jc kb iM oF fH;dsimp only;repeat' split
 all_goals rfl
def ZR (v:Value) (l:List (List AV)) (i:Nat) (hi:i<l.length) (hl:l.length<=1048576) (dP:∀r∈l,r.length=15):
 bJ prog 234 [AV.val v,AV.int i,AV.int ((i:Int)+1)] [Own.row v 108 15 l] (λ_:Value=>True) (λu=>[Own.row u 108 15 (l.take i++l.drop (i+1))]) AV.val:=by
 refine bJ.intro 33 func234 rfl ntmps234 rfl aP (λW I a U=>?_);obtain⟨q,cap,rfl,kD⟩:=U.xv 0 rfl;refine dp λI a w U=>?_;refine U.o (Kv (lo:=i) (hi:=i+1) (mx:=l.length) eA cV .tt .tt .tt .tt rfl om rfl om om om) λU=>?_;refine aM λI a w U=>?_;refine U.cd (λae=>?_) λae=>?_
 .exfalso;simp only[B] at ae;omega;skip
 refine aM λI a w U=>?_;have bH:l≠[]:=by intro e;rw[e] at hi;simp at hi
 obtain⟨b,l7,he,l8,l9,kQ,U⟩:=U.qn 0 rfl bH;simp only[Value.slice.injEq] at he;obtain⟨rfl,_,rfl⟩:=he;have hF:l.flatten.length=l.length*15:=fM dP;have hB:(l.drop (i+1)).flatten.length=(l.length-(i+1))*15:=by rw[fM λr hr=>dP r (List.mem_of_mem_drop hr),List.length_drop]
 have hlen:(l.take i++l.drop (i+1)).length=i+(l.length-(i+1)):=by simp;omega
 have lf:∀r∈(l.take i++l.drop (i+1)),r.length=15:=λr hr=>(List.mem_append.1 hr).elim (λh=>dP r (List.mem_of_mem_take h)) λh=>dP r (List.mem_of_mem_drop h);refine U.dt 6 ?_;simp only[TD];refine cg ?_;refine .o (qt (hi:=i) eA cV .tt .tt rfl om om) ?_;refine cg ?_;refine .o (D5 (lo:=i+1) eA cV .tt .tt om om om) ?_;refine .nil ?_;intro I a w U;refine U.Kx (xs:=(l.drop (i+1)).flatten) 0 eA cV .tt .tt rfl (by rw[List.drop_append_of_le_length (by simp only[List.length_map,hF];exact Nat.mul_le_mul_right _ om),<-List.map_drop,EU dP];exact jt _ (List.length_map _)) hB om (by simp only[List.length_append,List.length_map,List.length_replicate,hF,hB];omega) rfl λU=>?_;refine bK λI a w U=>?_;refine U.o (Kw (lo:=i+(l.length-(i+1))) (hi:=l.length) eA cV .tt .tt .tt rfl rfl om om) λU=>?_;refine U.D7 0 eA cV rfl fo .tt om rfl (by rw[jR]<;>simp only[List.length_append,List.length_map,List.length_replicate,hF,hB]<;>omega) λU=>?_;have U:=U.qp (l:=(l.take i++l.drop (i+1))) (cap:=cap) 0 rfl (by rw[jR,jR]<;>(try rw[jR])<;>simp only[List.length_append,List.length_map,List.length_replicate,hF,hB]<;>omega) lf om om om (KB dP hi);rw[<-hlen] at U;refine aq λI a w U=>?_;refine U.bD _ [0] rfl (.cons (.t rfl) .nil) trivial rfl rfl
def OU (s:Server) (slot:Int) (h:ou s) (h0:cQ s.site=true) (hl:s.aN.length=3) (ot:0<=slot/\slot<3):
 Fn prog 290 [s.av,AV.int slot] ((gj s slot).av):=by
 refine Fn.go 44 func290 ntmps290 (λW I a U=>?_);obtain⟨h1,⟨h2,h3⟩,⟨h4,h5⟩,h6,h7⟩:=h;refine bw λI a w U=>?_;refine U.alloc rfl cV dr λb4 I a w U=>?_;refine zt ?_;refine U.da 14 ?_;simp only[TD];refine dq ?_;refine .o (.c1 (Fk _ h0)) ?_;refine jJ ?_;refine .o (.bd dr (.k (.k (.k (.k (.k aT.nil)))))) ?_;refine fk.alloc cV dr<|.nil ?_;intro I a w U;obtain⟨b5,U⟩:=U.rF (d:=5) rfl;refine bj λI a w U=>?_;refine U.o (.cl (BM s.ar slot h2 h3)) λU=>?_;refine j3 λI a w U=>?_;refine U.o (.cl (BM s.waits slot h4 h5)) λU=>?_;refine j3 λI a w U=>?_;refine U.o (.cl (LF s.aE slot h6)) λU=>?_;refine ib λI a w U=>?_;refine U.ret rfl (.cons (.sx 0) aX.nil) ?_;rfl
def ZS (s:Server) (m:aw) (hg:bA s) (hm:bQ m=true) (ho:(cQ m.aY&&(ct m.aY !=ct s.site))=true):
 Fn prog 344 [s.av,m.av] (AV.c6 [(gY s m).1.av,cU (gY s m).2]):=by
 refine Fn.go 76 func344 ntmps344 (λW I a U=>?_);have al:=iL.2 hg;have cK:=hg.ok;have gF:=hg.small;have jM:=mD hm;have lens:m.aS.length<=9223372036854775807/\m.ar.length<=9223372036854775807/\m.waits.length<=9223372036854775807/\m.aE.length<=9223372036854775807:=⟨U.ln 1 9,U.ln 1 12,U.ln 1 13,U.ln 1 14⟩;have h3:=hg.aN;refine aF λI a w U=>?_;refine U.alloc rfl ck c9 λb4 I a w U=>?_;refine ao λI a w U=>?_;refine U.dk ?_;refine mn ?_;refine .q .F (dE (i:=0) dA bL .ag .c (λhg=>by simp at hg;omega)) ?_;refine cg ?_;refine .q .F (.cl (vN s (ab m.ar 0).key h3)) ?_;refine gw ?_;refine .q .F (dE (i:=0) dA bL .ag .c (λhg=>by simp at hg;omega)) ?_;refine aW ?_;refine .q .F (.cl (ER ..)) ?_;refine cg ?_;refine .nil ?_;intro I a w U;refine ba ?_;refine U.cd (λae=>?_) λae=>?_
 .rw[L4 ho] at ae;replace ae:=nt ae;refine aM λI a w U=>?_;refine U.ret rfl (.cons (.sx 0) (.cons (.nil (sz:=15) rfl) aX.nil)) ?_;exact(by unfold gY;rw[ae];rfl)
 rw[L4 ho] at ae;replace ae:=nf ae;refine aF λI a w U=>?_;refine U.o (dE (i:=0) dA bL .tt .c (λ_=>by have:=(AO ae).2.2.1;omega)) λU=>?_;refine U.o .la λU=>?_;refine U.alloc rfl bL dy λb6 I a w U=>?_;refine ao λI a w U=>?_;obtain⟨I,U⟩:=U.fb 1 6;refine U.o .la λU=>?_;refine U.o (.c1 (qR s gF)) λU=>U.alloc rfl ck c9 λb7 I a w U=>?_;refine ao λI a w U=>?_;refine U.dk ?_;refine dw ?_;refine .o (.c1 (mF ..)) ?_;refine .o (.cl (pQ ..)) ?_;refine eP ?_;refine .q .T (.cl (mF ..)) ?_;refine .q .T (.cl (pQ ..)) ?_;refine cg ?_;refine .nil ?_;intro I a w U;refine ba ?_;refine kO (λah=>?_) λah=>?_
 .refine bc λI a w U=>?_;refine U.o (.cl (N7 _ _ cK.waits)) λU=>?_;refine ib λI a w U=>?_;refine cz (λaj=>?_) λaj=>?_
  .refine aM λI a w U=>?_;refine U.ret rfl (.cons (.sx 0) (.cons (.nil (sz:=15) rfl) aX.nil)) ?_;exact(by unfold gY;rw[ae,if_pos rfl];dsimp only;rw[if_pos ah,aj];rfl)
  refine aM λI a w U=>?_;rw[if_pos aj] at U;refine U.dt 10 ?_;simp only[TD];refine aW ?_;refine .o (.c1 (wA {s with waits:=ej s.waits (ab m.ar 0)} (cK.ED aj ah.1) (gZ hg.aE))) ?_;refine gw ?_;refine .o (.bd dr (.k (.k (.t aT.nil)))) ?_;refine .o (.c3 (qT s m ⟨6,0,0,0,(ab m.ar 0).key,(ab m.ar 0).ax,0,false,[],0,0,[],[],[]⟩ (tP ..)))<|.nil ?_;intro I a w U;refine aq λI a w U=>?_;refine U.ret rfl (.cons (.sx 0) (.cons .x aX.nil)) ?_;exact(by unfold gY;rw[ae,if_pos rfl];dsimp only;rw[if_pos ah,aj];rfl)
 rw[<-Bool.not_eq_true] at ah;simp only[B] at ah;refine zt ?_;refine U.dt 10 ?_;simp only[TD];refine aW ?_;refine .o (.c1 (wA s cK (gZ hg.aE))) ?_;refine gw ?_;refine .o (.bd dr (.k (.k (.t aT.nil)))) ?_;refine .o (.c3 (qT s m ⟨6,0,0,0,(ab m.ar 0).key,(ab m.ar 0).ax,0,false,[],0,0,[],[],[]⟩ (tP ..)))<|.nil ?_;intro I a w U;refine aq λI a w U=>?_;refine U.ret rfl (.cons (.sx 0) (.cons .x aX.nil)) ?_;exact(by unfold gY;rw[ae,if_pos rfl];dsimp only;rw[if_neg ah];rfl)
def ZT (q:Call) (t:Int) (h:dQ q t) (ht:t<=1000000):
 Fn prog 273 [q.av] (cU (jo q)):=by
 refine Fn.go 89 func273 ntmps273 (λW I a U=>?_);have hb:=h.bq;have uq:=h.yA om;have lX:=h.lens;have dN:=E9 (pG.2 h);refine aq λI a w U=>?_;refine U.l0 λb6 I a w U=>?_;refine fm λI a w U=>?_;refine U.o (cq (B0 q (q.bq+q.end_) om om) (ai (.t rfl) (ai (.t rfl) aB))) λU=>?_;refine td λI a w U=>?_;refine U.cd (λae=>?_) λae=>?_
 .rw[MH (t:=t) dN uq.1] at ae;replace ae:=nt ae;refine aq λI a w U=>?_;obtain⟨I,U⟩:=U.fr 0 2;refine U.rt ?_;exact(by unfold jo;rw[ae];rfl)
 rw[MH (t:=t) dN uq.1] at ae;replace ae:=nf ae;refine aM λI a w U=>?_;refine cz (λah=>?_) λah=>?_
 .refine wp_seq<|U.dk ?_;refine vi ?_;refine .o (.bd dr (.k (.k (.k (.k aT.nil))))) ?_;refine .o (.c2 (F1 q {bW with kind:=1,key:=ab q.keys 0,val:=q.val,aS:=q.ctx} h.aA ⟨by show q.ctx.length<=_;omega,by simp[sa,bW],by simp[sa,bW],by simp[bW]⟩)) ?_;refine aW ?_;refine .nil ?_;intro I a w U;refine zt ?_;refine U.rt ?_;exact(by unfold jo asks;rw[ae,if_pos rfl,if_pos ah];rfl)
 refine ao λI a w U=>?_;refine St.lo (σ:=Nat×Value) (run 2 3 (run 25 39 [])) ⟨λ⟨k,v⟩=>[(4,AV.int k),(3,AV.val v)],λ⟨k,v⟩=>[Own.row v 108 15 ((nA q k).map aw.cells)],λ⟨k,v⟩=>k<=q.keys.length⟩ (λ⟨k,v⟩=>q.keys.length-k) (0,.slice (some ⟨b6,0,none⟩) 0 0) U ?aH ?bx;case aH=>exact Nat.zero_le _
 rintro⟨k,v⟩ I a w al U;have hk:k<=q.keys.length:=al;dsimp only at U;refine cn λI a w U=>?_;refine cz (λaj=>?_) λaj=>?_
 .refine zt ?_;refine U.dk ?_;refine gw ?_;refine .o (.c2 (Bq ..)) ?_;refine aW ?_;refine .nil ?_;intro I a w U;refine ba ?_;refine cz (λaG=>?_) λaG=>?_
  .refine U.dt 9 ?_;simp only[TD];refine jJ ?_;refine .o (.bd dr (.k (.k aT.nil))) ?_;refine .o (.c2 (F1 q (tW (ab q.keys k)) h.aA (Ou _)))<|.nil ?_;intro I a w U;refine U.append 0 rfl eA cV rfl .tt .r rfl (by have:=FD q k hk;simp[jn];omega) λZU a w U=>?_;rw[<-List.map_append,NA aj (by simpa using aG)] at U;refine aV λI a w U=>?_;exact U.ag (k+1,ZU) (aj)
  refine aM λI a w U=>?_;rw[NB aj (by simpa using aG)] at U;exact U.ag (k+1,v) (aj)
 refine wp_exit<|cm<|cm<|dS<|ba<|wp_seq<|wp_seq ?_;rw[Yy om] at U;refine ao λI a w U=>?_;refine St.lo (σ:=Nat×Value) (3::(5::(run 24 64 []))) ⟨λ⟨j,v⟩=>[(5,AV.int j),(3,AV.val v)],λ⟨j,v⟩=>[Own.row v 108 15 ((pS q j).map aw.cells)],λ⟨j,v⟩=>j<=q.aL.length⟩ (λ⟨j,v⟩=>q.aL.length-j) (0,v) U ?dC ?iJ;case dC=>exact Nat.zero_le _
 rintro⟨j,v⟩ I a w al U;have hj:j<=q.aL.length:=al;dsimp only at U;refine cn λI a w U=>?_;refine cz (λaK=>?_) λaK=>?_
 .refine zt ?_;refine U.dt 16 ?_;simp only[TD];refine qz ?_;refine .o (.bd dr (.k (.k (.t aT.nil)))) ?_;refine .o (.c2 (F1 q (tH (ab q.aL j)) h.aA (Ov _)))<|.nil ?_;intro I a w U;refine U.append 0 rfl eA cV rfl .tt .r rfl (by have:=Ot q j hj;simp[jn];omega) λET a w U=>?_;rw[<-List.map_append,Oq aK] at U;refine aV λI a w U=>?_;exact U.ag (j+1,ET) (aK)
 refine wp_exit<|cm<|cm<|dS<|ba<|wp_seq ?_;rw[Y0 ae (by simpa using ah) om] at U;obtain⟨I,U⟩:=U.fr 0 3;refine dh ?_;rfl
def mO (q:Call) (k:Nat):List aw:=(((asks q).take k).map (jn q)).flatten
def OV {q:Call} {k:Nat} (h:k<q.keys.length) (hg:¬cE q (ab q.keys k)<0):nE q k=nE q (k+1):=by
 unfold nE;rw[lQ h (by simpa using hg)]
def ZV {q:Call} (h:q.ctx.length<=1048576):∀m∈asks q,iY m:=by
 intro m hm;unfold asks at hm;split at hm
 .obtain rfl:=List.mem_singleton.1 hm;exact⟨h,⟨Nat.zero_le _,λ_ h=>by cases h⟩,⟨Nat.zero_le _,λ_ h=>by cases h⟩,Nat.zero_le _⟩
 rcases List.mem_append.1 hm with hm|hm
 .obtain⟨k,_,rfl⟩:=List.mem_map.1 hm;exact Ou k
 obtain⟨d,_,rfl⟩:=List.mem_map.1 hm;exact Ov d
def GA (q:Call):∀k,k<=(asks q).length->(mO q k).length=2*k
 |0,_=>by simp[mO]
 |k+1,h=>by
  have ih:=GA q k om;unfold mO at ih⊢;rw[dO om,List.map_append,List.flatten_append,List.length_append,ih];rfl
def ZW {q:Call} {k i:Nat} (h:k<(asks q).length) (hi:2<=i):mO q k++(jn q (ab (asks q) k)).take i=mO q (k+1):=by
 unfold mO;rw[List.take_of_length_le (l:=jn _ _) (by simpa[jn] using hi),dO h,List.map_append,List.flatten_append];simp
def OW {q:Call} {k:Nat} (hw:g0 q=true) (h:(asks q).length<=k):mO q k=jo q:=by
 unfold mO jo;rw[if_pos hw,List.take_of_length_le h]
def ZX {q:Call} {m:aw} {t t0:Int} (h:dQ q t0) (hv:m.kind=4/\(m.yes=true->m.ar.length=1/\(ab m.ar 0).key=m.key)) (iT:gz q.keys m.key=true) (hb:(decide (cE q m.key<0)&&dW m.ax)=true) (ha:na {q with az:=df q.az (dB m)}=false):jz q m t={q with az:=df q.az (dB m)}:=by
 rw[Bool.and_eq_true,decide_eq_true_eq] at hb;have cj:=(FZ h iT hb.1).2;unfold jz;rw[if_pos hv,if_pos hb.1,if_pos hb.2];unfold nC;dsimp only;rw[if_pos];have:¬((df q.az (dB m)).length:Int)=q.keys.length:=by simpa[na] using ha
 rw[tw] at this⊢;omega
def OX {q:Call} {m:aw} {t t0:Int} (h:dQ q t0) (hv:m.kind=4/\(m.yes=true->m.ar.length=1/\(ab m.ar 0).key=m.key)) (iT:gz q.keys m.key=true) (hb:(decide (cE q m.key<0)&&dW m.ax)=true) (ha:na {q with az:=df q.az (dB m)}=true):
 jz q m t=if ka {q with az:=df q.az (dB m)}=[] then{q with az:=df q.az (dB m),aL:=ka {q with az:=df q.az (dB m)},end_:=t} else{q with az:=df q.az (dB m),aL:=ka {q with az:=df q.az (dB m)}}:=by
 rw[Bool.and_eq_true,decide_eq_true_eq] at hb;have sB:=(FZ h iT hb.1).1;have:((df q.az (dB m)).length:Int)=q.keys.length:=by simpa[na] using ha
 unfold jz;rw[if_pos hv,if_pos hb.1,if_pos hb.2];unfold nC lR;dsimp only;rw[if_neg om];generalize ka {q with az:=df q.az (dB m)}=y;rw[sB,List.nil_append]
def ZY {q:Call} {m:aw} {t:Int} (hv:m.kind=4/\(m.yes=true->m.ar.length=1/\(ab m.ar 0).key=m.key)) (hb:(decide (cE q m.key<0)&&dW m.ax)=false) (ah:(decide (0<=cE q m.key)&&m.yes&&decide (0<=gh q.aL (dB m).bF.bG))=false):jz q m t=q:=by
 unfold jz;rw[if_pos hv];by_cases hg:cE q m.key<0
 .rw[decide_eq_true hg,Bool.true_and] at hb;rw[if_pos hg,if_neg (by rw[hb];simp)]
 rw[if_neg hg];split
 .rename_i hy;rw[decide_eq_true om,hy,Bool.true_and,Bool.true_and,decide_eq_false_iff_not,vH] at ah;unfold np;rw[if_neg ah]
 rfl
def ZZ (q:Call) (n:Value) (key:Int):
 Fn prog 284 [q.wu n,AV.int key] (AV.int (cE q key)):=by
 refine Fn.go 9 func284 ntmps284 (λW I a U=>?_);refine bw λI a w U=>?_;refine U.o (uQ .tt (by first|exact fi rfl|exact dD|exact fB|exact fE)) λU=>?_;refine bc λI a w U=>?_;refine U.o (mb (ai .tt aB)) λU=>?_;refine U.o (.cl (Lt q.az (qD key) _ (λv _=>Fn.val (Ly v key)))) λU=>?_;refine bk ?_;rfl
def Z0 (m:aw) (d:an):
 Fn prog 346 [d.av,AV.ptr m.cells] (AV.bool (decide (d=⟨m.key,m.ax⟩))):=by
 refine Fn.go 11 func346 ntmps346 (λW I a U=>?_);refine fm λI a w U=>?_;refine U.o (.bd ez (.k (.t aT.nil))) λU=>?_;refine U.o (lF [_,_,_] [_,_,_] vj rfl rfl .tt .tt) λU=>?_;refine bk ?_;exact congrArg AV.bool (xP d ⟨m.key,m.ax⟩)
def Z1 {s:Server} {m:aw} (h:(m.kind==10&&(m.aY==eS s.site)&&([(ab s.aN m.slot.toNat).bU,(ab s.aN m.slot.toNat).eH]==[m.bU,2]))=true):en s m=(gW (rU s m),[]):=by
 simp only[Bool.and_eq_true,beq_iff_eq,List.cons.injEq] at h;rw[oN h.1.1];unfold nz;rw[if_pos (by simp only[Bool.and_eq_true,beq_iff_eq];exact⟨⟨h.1.2,h.2.2.1⟩,h.2.1⟩)]
def Z2 {s:Server} {m:aw} (hg:bA s) (h:(m.kind==6&&(cQ m.aY&&(ct m.aY !=ct s.site))&&fw s m.key)=true):en s m=({s with aE:=s.aE.filter (λd=>!decide (d=⟨m.key,m.ax⟩))},[]):=by
 simp only[Bool.and_eq_true,beq_iff_eq] at h;obtain⟨⟨h1,h2,h3⟩,h4⟩:=h;have h5:(eB s m.key==1)=true:=by unfold fw at h4;rw[Bool.and_eq_true] at h4;exact h4.2
 rw[oK h1,ZA hg.aE];unfold ny;rw[h2,h3,h5];by_cases hi:0<=gh s.aE ⟨m.key,m.ax⟩
 .rw[if_pos hi,if_pos (by simp[hi])]
 rw[if_neg hi,if_neg (by simp[hi])]
def Z3 (x:aJ) (e:Ev) (hg:cr x) (ht:x.time<=1000000):
 Fn prog 271 [x.av,e.av] (AV.c6 [(kb x e).1.av,AV.bool (kb x e).2]):=by
 refine Fn.go 82 func271 ntmps271 (λW I a U=>?_);have lX:=hg.lens;have B5:=hg.seen;have wB:=hg.time;refine sr<|U.box rfl .tt λb2 I a w U=>U.o .bp λU=>U.alloc rfl eE eQ λb4 I a w U=>?_;refine bc λI a w U=>?_;refine U.o (.cl (ic ..)) λU=>?_;refine dp λI a w U=>?_;refine U.q .F (.cl (A7 ..)) λU=>?_;refine aq λI a w U=>?_;refine U.cd (λae=>?_) λae=>?_
 .rw[Ma] at ae;replace ae:=nt ae;refine aM λI a w U=>?_;refine U.ret rfl (.cons (.sx 1) (.cons (.t rfl) aX.nil)) ?_;exact(by rw[FP ae];rfl)
 rw[Ma] at ae;replace ae:=nf ae;have B6:=ae;simp only[eN,aQ,Bool.and_eq_true,decide_eq_true_eq] at B6;refine zt ?_;refine U.da 18 ?_;simp only[TD];refine eP ?_;refine .o (.c1 (Xg ..))<|.o (qm c4 cx) ?_;refine gw ?_;refine .o (xr c4 cx rfl .tt .r (λ_=>by have:=hg.NI (i:=e.aA.toNat) om;simp;omega)) ?_;refine cg ?_;refine .o (.bd jj (.k (.k (.k (.k (.k (.k aT.nil))))))) ?_;refine fk.alloc ei jj<|.nil ?_;intro I a w U;obtain⟨b6,U⟩:=U.rF (d:=6) rfl;refine U.sb 2 λU=>?_;refine nn ?_;refine St.cut (σ:=Int) (run 6 38 []) ⟨λval=>[],λval=>[Own.box b2 28 x.cells,Own.box b4 28 [AV.val (.int .i64 0),AV.rows 7 [],AV.rows 15 [],AV.rows 13 [],AV.rows 1 []],Own.box b6 45 ({AZ with aA:=e.aA,num:=1,kind:=e.call,keys:=lU e,val:=val,ctx:=ab x.seen e.aA.toNat,bq:=x.time}:Call).cells],λval=>val=if e.call=1 then e.val else 0⟩ U ?oP ?yR;case oP=>
  refine aM λI a w U=>?_;refine cz (λah=>?_) λah=>?_
  .refine aV λI a w U=>?_;exact U.me e.val (by first|exact(if_pos ah).symm|exact(if_neg ah).symm)
  refine zt ?_;exact U.me 0 (by first|exact(if_pos ah).symm|exact(if_neg ah).symm)
 rintro val I a w al U;have rr:val=if e.call=1 then e.val else 0:=al
 subst rr;refine ao λI a w U=>?_;refine St.lo (σ:=Nat) (7::(run 24 44 [])) ⟨λk=>[(7,AV.int k)],λk=>[Own.box b2 28 x.cells,Own.box b4 28 [AV.val (.int .i64 0),AV.rows 7 [],AV.rows 15 [],AV.rows 13 [],AV.rows 1 []],Own.box b6 45 ({AZ with aA:=e.aA,num:=qP x.calls e.aA k+1,kind:=e.call,keys:=lU e,val:=(if e.call=1 then e.val else 0),ctx:=ab x.seen e.aA.toNat,bq:=x.time}:Call).cells],λk=>k<=x.calls.length⟩ (λk=>x.calls.length-k) 0 U ?aH ?bx;case aH=>exact Nat.zero_le _
 rintro k I a w al U;have hk:k<=x.calls.length:=al;dsimp only at U;refine cn λI a w U=>?_;refine cz (λaj=>?_) λaj=>?_
 .refine ao λI a w U=>?_;refine cz (λaG=>?_) λaG=>?_
  .refine dp λI a w U=>?_;refine U.o (jW .tt .c (λ_=>by have:=(hg.call aj).num;omega)) λU=>?_;refine cn λI a w U=>?_;rw[VX aG] at U;exact U.ag (k+1) (aj)
  refine aM λI a w U=>?_;rw[VY aG] at U;exact U.ag (k+1) (aj)
 refine zt ?_;rw[XH x.calls e.aA hk om] at U;have U:=U.fP;refine U.db (rp 2 [([0],none),([3],some (3,[71])),([2],none),([],none),([3],some (3,[])),([],none),([0],some (0,[]))]) aP aP rfl ?_;refine .o (qm ju ei) ?_;refine aW ?_;refine .r [0] (.lb 0) ?_;refine aI.xt 3 rfl rfl ju ei rfl .tt .r fK ?_;refine .r [2] (.ls 2) ?_;refine .o (.li [(oE x e).cells] xD (.u .nil)) ?_;refine aI.zZ 3 rfl rfl ju ei rfl .r fK ?_;refine aW ?_;refine aI.de (x:=AV.any) 0 (λF W0 I0 I γ a w Q U kk=>U.s1 0 λU=>kk _ _ _ U) ?_;refine .nil ?_;intro I a w U;rw[bN] at U;refine zt ?_;refine U.dt 6 ?_;simp only[TD];refine eP ?_;refine .o (cq (OM (x.calls++[oE x e]) x.time om (λq hq=>by rcases List.mem_append.1 hq with hq|hq;(have:=lX.2 q hq;omega);(obtain rfl:q=oE x e:=by simpa using hq);simp[oE,AZ])) (ai .r (ai (.t rfl) aB))) ?_;refine .nil ?_;intro I a w U;refine aq λI a w U=>?_;refine U.ret rfl (.cons (.sx 1) (.cons (.t rfl) aX.nil)) ?_;exact(by rw[yF ae];rfl)
def Z4 {au more:List aw} {k:Nat} (hr:au.length<=60) (hk:k<more.length) (h:¬(eC au (more.take k)).length<60):eC au (more.take k)=eC au (more.take (k+1)):=by
 unfold eC at h⊢;rw[List.length_append,List.length_take,List.length_take] at h;rw[List.take_take,List.take_take,Nat.min_eq_left om,Nat.min_eq_left om]
def Z5 (au:List aw):eC au []=au:=by simp[eC]
def Z6 {w:aJ} (h:cr w) (x:Int):qX w.calls x=fT w.calls w.calls.length x:=by
 have key:∀k,k<=w.calls.length->(w.calls.take k).foldl (λn q=>if q.aA=x then q.num else n) 0=fT w.calls k x:=by
  intro k;induction k with
  |zero=>intro _;rw[EX];rfl
  |succ k ih=>
   intro hk
   rw[dO om,List.foldl_append,ih om,qM om]
   show(if(ab w.calls k).aA=x then(ab w.calls k).num else fT w.calls k x)=_
   split
   .rename_i e
    rw[((tu.1 h.calls).2 k om).2.2.1,e,qM om,if_pos e]
   rfl
 have:=key w.calls.length (Nat.le_refl _);rw[List.take_length] at this;exact this
def Z7 {x:aJ} {e:Ev} (hg:cr x) (h:0<=e.aA/\e.aA<=1) {q:Call} (hq:q∈x.calls++[oE x e]):iQ q.aA:=by
 rcases List.mem_append.1 hq with hq|hq
 .obtain⟨k,hk,rfl⟩:=iz hq;have:=r6.1 (hg.call hk).aA;unfold iQ;omega
 obtain rfl:=List.mem_singleton.1 hq;show iQ e.aA;unfold iQ;omega
def OY (v:Value) (l:List aw) (i:Int) (h0:0<=i) (hi:i<l.length) (hl:l.length<=1048576):bJ prog 234 [AV.val v,AV.int i,AV.int (i+1)] [Own.row v 108 15 (l.map aw.cells)] (λ_:Value=>True) (λu=>[Own.row u 108 15 ((l.take i.toNat++l.drop (i.toNat+1)).map aw.cells)]) AV.val:=by
 obtain⟨n,rfl⟩:=Int.eq_ofNat_of_zero_le h0;rw[List.map_append,List.map_take,List.map_drop];exact ZR v (l.map aw.cells) n gG gG (λr hr=>by obtain⟨u,_,rfl⟩:=List.mem_map.1 hr;rfl)
def Z8 {x:aJ} {e:Ev} (h:((ab x.aC e.at_.toNat).up==(e.kind==7))=false) (h7:e.kind=7):(ab x.aC e.at_.toNat).up=false:=by
 rw[h7] at h;simpa using h
structure cJ (n:Nat) (s:dj):Prop where
 reach:Reach s.w
 time:s.w.time<=n
 len:s.list.length<=n
 fit:∀e∈s.list,e.vU
def cJ.mono {n m:Nat} {s:dj} (h:cJ n s) (hm:n<=m):cJ m s:=
 ⟨h.reach,by have:=h.time;omega,by have:=h.len;omega,h.fit⟩
def cJ.start (n:Nat) (v:Value):cJ n ⟨gC,[],v⟩:=⟨.start,Int.natCast_nonneg n,Nat.zero_le _,λ_ h=>by simp at h⟩
def cJ.Z9 {n:Nat} {s:dj} {e:Ev} (h:cJ n s) (he:e.vU) (al:(eU s.w e).2=true) (v:Value):cJ (n+1) ⟨(eU s.w e).1,s.list++[e],v⟩:=
 ⟨h.reach.step al,by have:=h.time;show(eU s.w e).1.time<=_;rw[Gz];omega,by have:=h.len;show(s.list++[e]).length<=_;simp;omega,λx hx=>by
  rcases List.mem_append.1 hx with hx|hx
  .exact h.fit x hx
  obtain rfl:=List.mem_singleton.1 hx;exact he⟩
def Server.OZ (s:Server) (r:Value×Value×Value):AV:=.agg [.int s.site,.bool s.up,.val r.1,bV s.ar,bV s.waits,.val r.2.1,.val r.2.2]
def aaa (s:Server) (h:ou s):
 bJ prog 165 [s.av] [] (λ_:Value×Value×Value=>True) (λr=>[Own.row r.1 97 2 (s.aN.map cI.cells),Own.row r.2.1 125 3 (s.aE.map an.cells),Own.row r.2.2 125 3 (s.bn.map an.cells)]) s.OZ:=by
 refine bJ.intro 27 func165 rfl ntmps165 rfl aP (λW I a U=>?_);obtain⟨h1,⟨h2,h3⟩,⟨h4,h5⟩,h6,h7⟩:=h;refine sr<|U.box rfl .tt λb1 I a w U=>U.alloc rfl ck c9 λb2 I a w U=>?_;refine zt ?_;refine U.l0 λb3 I a w U=>?_;refine aF λI a w U=>?_;refine U.ap 2 λv6 a w U=>?_;refine U.o .fv λU=>?_;try have Xo:=U.dK 2 rfl
 refine bc λI a w U=>?_;refine U.o (.cl (qI s.ar h2 h3)) λU=>?_;refine bj λI a w U=>?_;refine U.o (.cl (qI s.waits h4 h5)) λU=>?_;refine aq λI a w U=>?_;refine U.l0 λvQ I a w U=>?_;refine aF λI a w U=>?_;refine U.ap 3 λj6 a w U=>?_;refine U.o .fv λU=>?_;try have LK:=U.dK 3 rfl
 refine ao λI a w U=>?_;refine U.l0 λvR I a w U=>?_;refine aF λI a w U=>?_;refine U.ap 4 λtx a w U=>?_;refine U.o .fv λU=>?_;try have NN:=U.dK 4 rfl
 refine aM λI a w U=>?_;refine U.bD (v6,j6,tx) [2,3,4] rfl (.cons (.sx 1) .nil) trivial rfl rfl
def aaO (x:aJ) (e:Ev) (hg:cr x) (ht:x.time<=1000000):
 Fn prog 211 [x.av,e.av] (AV.c6 [(jc x e).1.av,AV.bool (jc x e).2]):=by
 refine Fn.go 53 func211 ntmps211 (λW I a U=>?_);have lX:=hg.lens;have iD:=hg.au;refine sr<|U.box rfl .tt λb2 I a w U=>U.o .bp λU=>U.alloc rfl eE eQ λb4 I a w U=>?_;refine bK λI a w U=>?_;refine U.o (.cl (A7 x.calls e.aA)) λU=>?_;refine cn λI a w U=>?_;refine cz (λae=>?_) λae=>?_
 .refine aF λI a w U=>?_;refine U.o (.c2 (Z3 x e hg ht)) λU=>?_;refine aV λI a w U=>?_;refine U.ret rfl (.cons (.sx 1) (.cons (.t rfl) aX.nil)) ?_;exact(by rw[Y3 ae];rfl)
 refine aM λI a w U=>?_;refine cz (λah=>?_) λah=>?_
 .refine aM λI a w U=>?_;refine U.ret rfl (.cons (.sx 1) (.cons (.t rfl) aX.nil)) ?_;exact(by rw[Y4 ae ah];rfl)
 have hni:=(uc ah).1;refine aV λI a w U=>?_;refine cz (λaj=>?_) λaj=>?_
 .refine zt ?_;refine U.l0 λb29 I a w U=>?_;refine aF λI a w U=>?_;refine U.ap 2 λv32 a w U=>?_;simp only[List.nil_append] at U;refine U.o .fv λU=>?_;try have ajN:=U.dK 2 rfl
  refine ao λI a w U=>?_;obtain⟨yP,yQ,oO⟩:=U.gv 2 rfl mR;subst oO;refine bc λI a w U=>?_;refine U.o (fj ju ei .tt .tt (λ_=>by simp only[List.length_map];omega)) λU=>?_;refine U.o .fv λU=>?_;refine U.sT (j:=8) 2 xA .tt .c (by first|exact fi rfl|exact dD|exact fB|exact fE|assumption) rfl (by exact dL om) rfl rfl λa w U=>?_;refine nn<|wp_seq ?_;have e9:∀y,y=Call.cells ({ab x.calls (cw x.calls e.aA).toNat with over:=true})->(List.map Call.cells x.calls).set (cw x.calls e.aA).toNat y=List.map Call.cells (x.calls.set (cw x.calls e.aA).toNat ({ab x.calls (cw x.calls e.aA).toNat with over:=true})):=λy hy=>by rw[hy,List.map_set]
  rw[e9] at U;rotate_left
  .rfl
  obtain⟨I,U⟩:=U.fu 2 3 0;refine aM λI a w U=>?_;refine U.ret rfl (.cons (.sx 1) (.cons (.t rfl) aX.nil)) ?_;exact(by rw[Y5 ae ah aj];rfl)
 refine zt ?_;have U:=U.fP;refine U.db (rp 2 (([0],none)::([2],some (2,[43]))::([],none)::([0],none)::rp 4 [([2],some (2,[])),([],none),([0],some (0,[]))])) aP aP rfl ?_;refine .o (qm eA cV) ?_;refine aW ?_;refine .r [0] (.lb 0) ?_;refine aI.xt 2 rfl rfl eA cV rfl .tt .r fK ?_;refine aW ?_;refine .r [0] (.lb 0) ?_;refine dw ?_;refine .o (.c1 (ZT _ x.time (hg.call (uc ah).1) ht)) ?_;refine aI.dX (d':=43) (xs:=λv=>[AV.val v,cU (jo (ab x.calls (cw x.calls e.aA).toNat))]) 2 rfl rfl (λv=>A8 v x.au (jo (ab x.calls (cw x.calls e.aA).toNat)) hg.au) (λI a he hg=>Sl rfl ((ai .r aB) I a he hg)) ?_;refine aW ?_;refine aI.de (x:=AV.any) 0 (λF W0 I0 I γ a w Q U kk=>U.s1 0 λU=>kk _ _ _ U) ?_;refine .nil ?_;intro I a w U;refine aM λI a w U=>?_;refine U.ret rfl (.cons (.sx 1) (.cons (.t rfl) aX.nil)) ?_;exact(by rw[Y6 ae ah aj];rfl)
end Go.Proofs.YtldbakcpcfdlaaaGreat
set_option linter.all false
set_option maxRecDepth 100000
set_option maxHeartbeats 4000000
namespace Go.Proofs.YtldbakcpcfdlaaaGreat
open Go Go.RowKit Tryz
attribute [local irreducible] wpList Code.wp Ok
set_option maxHeartbeats 16000000 in
def ZB (x:aJ) (e:Ev) (hg:cr x) (ht:x.time<=1000000) (wv:cQ e.at_=true):
 Fn prog 213 [x.av,e.av] (AV.c6 [(fH x e).1.av,AV.bool (fH x e).2]):=by
 refine Fn.go 85 func213 ntmps213 (λW I a U=>?_);have hai:=mI.1 wv;have iD:=hg.au;have ot:=hg.aC;have jA:=(hg.site e.at_.toNat om).2;have OQ:=iL.2 jA;refine sr<|U.box rfl .tt λb2 I a w U=>U.o .bp λU=>U.alloc rfl eE eQ λb4 I a w U=>?_;refine fm λI a w U=>?_;refine U.alloc rfl ck c9 λb6 I a w U=>?_;refine ao λI a w U=>?_;obtain⟨I,U⟩:=U.fb 2 6;refine U.l0 λZC I a w U=>?_;refine aF λI a w U=>?_;refine U.ap 3 λv20 a w U=>?_;simp only[List.nil_append] at U;refine U.o .fv λU=>?_;try have ajg:=U.dK 3 rfl
 refine ao λI a w U=>?_;refine U.l0 λZD I a w U=>?_;refine aF λI a w U=>?_;refine U.ap 4 λtG a w U=>?_;simp only[List.nil_append] at U;refine cn λI a w U=>?_;refine cz (λae=>?_) λae=>?_
 .refine wp_seq ?_;obtain⟨yP,yQ,oO⟩:=U.gv 3 rfl mR;subst oO;refine U.dt 7 ?_;simp only[TD];refine eP ?_;refine .o (.c1 (Yr (ab x.aC e.at_.toNat) OQ)) ?_;refine .o (fj nQ ck .tt .tt (λ_=>by simp only[List.length_map];omega)) ?_;refine .nil ?_;intro I a w U;refine U.jf 3 ck .tt .tt rfl (by exact dL om) rfl rfl λa w U=>?_;refine nn<|wp_seq ?_;have e9:∀y,y=Server.cells (oh (ab x.aC e.at_.toNat))->(List.map Server.cells x.aC).set e.at_.toNat y=List.map Server.cells (x.aC.set e.at_.toNat (oh (ab x.aC e.at_.toNat))):=λy hy=>by rw[hy,List.map_set]
  rw[e9] at U;rotate_left
  .rfl
  obtain⟨I,U⟩:=U.fu 3 1 0;refine U.db (([0],none)::rp 3 [([1],some (1,[])),([],none)]) aP aP rfl ?_;refine .r [0] (.ls 0) ?_;refine dw ?_;refine aI.de (x:=AV.any) 1 (λF W0 I0 I γ a w Q U kk=>U.sb 1 λU=>kk _ _ _ U) ?_;refine aW ?_;refine .nil ?_;intro I a w U;refine zt ?_;refine U.ret rfl (.cons (.sx 1) (.cons (.t rfl) aX.nil)) ?_;exact(by rw[Yz ae];rfl)
 refine aq λI a w U=>?_;refine cz (λah=>?_) λah=>?_
 .refine wp_seq ?_;obtain⟨yP,yQ,oO⟩:=U.gv 3 rfl mR;subst oO;refine U.dt 7 ?_;simp only[TD];refine eP ?_;refine .o (.c1 (X5 (ab x.aC e.at_.toNat) OQ)) ?_;refine .o (fj nQ ck .tt .tt (λ_=>by simp only[List.length_map];omega)) ?_;refine .nil ?_;intro I a w U;refine U.jf 3 ck .tt .tt rfl (by exact dL om) rfl rfl λa w U=>?_;refine nn<|wp_seq ?_;have e9:∀y,y=Server.cells (og (ab x.aC e.at_.toNat))->(List.map Server.cells x.aC).set e.at_.toNat y=List.map Server.cells (x.aC.set e.at_.toNat (og (ab x.aC e.at_.toNat))):=λy hy=>by rw[hy,List.map_set]
  rw[e9] at U;rotate_left
  .rfl
  obtain⟨I,U⟩:=U.fu 3 1 0;refine U.db (([0],none)::rp 2 [([1],some (1,[])),([],none)]) aP aP rfl ?_;refine .r [0] (.ls 0) ?_;refine cg ?_;refine aI.de (x:=AV.any) 1 (λF W0 I0 I γ a w Q U kk=>U.sb 1 λU=>kk _ _ _ U) ?_;refine aW ?_;refine .nil ?_;intro I a w U;refine zt ?_;refine U.ret rfl (.cons (.sx 1) (.cons (.t rfl) aX.nil)) ?_;exact(by rw[YA ah];rfl)
 refine aq λI a w U=>?_;refine cz (λaj=>?_) λaj=>?_
 .refine aF λI a w U=>?_;refine U.o (.c1 (YR (ab x.aC e.at_.toNat) jA)) λU=>?_;refine U.dX [4] (A8 tG x.au (kd (ab x.aC e.at_.toNat)) hg.au) (ai .r (ai .r aB)) rfl aO rfl λI a w U=>?_;change St _ _ [Own.box b2 28 [AV.int x.time,AV.val v20,cU x.au,fN x.calls,iw x.seen],Own.box b4 28 [AV.val (.int .i64 0),AV.rows 7 [],AV.rows 15 [],AV.rows 13 [],AV.rows 1 []],Own.gone,Own.row v20 95 7 (x.aC.map Server.cells),Own.gone] _ _ _ at U;refine aq λI a w U=>?_;obtain⟨I,U⟩:=U.fu 3 1 0;refine U.db (([0],none)::rp 2 [([1],some (1,[])),([],none)]) aP aP rfl ?_;refine .r [0] (.ls 0) ?_;refine cg ?_;refine aI.de (x:=AV.any) 1 (λF W0 I0 I γ a w Q U kk=>U.sb 1 λU=>kk _ _ _ U) ?_;refine aW ?_;refine .nil ?_;intro I a w U;refine zt ?_;refine U.ret rfl (.cons (.sx 1) (.cons (.t rfl) aX.nil)) ?_;exact(by rw[YB aj];rfl)
 refine bc λI a w U=>?_;refine U.o (.c2 (Xx (ab x.aC e.at_.toNat) e.slot jA)) λU=>?_;refine bj λI a w U=>?_;refine U.alloc rfl ck c9 λb8 I a w U=>U.alloc rfl cV dr λb9 I a w U=>?_;refine U.sb 5 λU=>?_;obtain⟨I,U⟩:=U.fb 5 8;refine U.sb 6 λU=>?_;obtain⟨I,U⟩:=U.fb 6 9;refine ao λI a w U=>?_;obtain⟨yP,yQ,oO⟩:=U.gv 3 rfl mR;subst oO;refine bK λI a w U=>?_;refine U.o (fj nQ ck .tt .tt (λ_=>by simp only[List.length_map];omega)) λU=>?_;refine U.jf 3 ck .tt .tt rfl (by exact dL om) rfl rfl λa w U=>?_;refine nn<|wp_seq<|wp_seq ?_;have e9:∀y,y=Server.cells (dT (ab x.aC e.at_.toNat) e.slot).1->(List.map Server.cells x.aC).set e.at_.toNat y=List.map Server.cells (x.aC.set e.at_.toNat (dT (ab x.aC e.at_.toNat) e.slot).1):=λy hy=>by rw[hy,List.map_set]
 rw[e9] at U;rotate_left
 .rfl
 obtain⟨I,U⟩:=U.fu 3 1 0;refine ao λI a w U=>?_;refine U.cd (λaG=>?_) λaG=>?_
 .refine aF λI a w U=>?_;refine U.o (.li [(dT (ab x.aC e.at_.toNat) e.slot).2.1.cells] fo (.u .nil)) λU=>?_;refine U.dX [4] (A8 tG x.au [(dT (ab x.aC e.at_.toNat) e.slot).2.1] hg.au) (ai .r (ai .r aB)) rfl aO rfl λI a w U=>?_;change St _ _ [Own.box b2 28 [AV.int x.time,jh (x.aC.set e.at_.toNat (dT (ab x.aC e.at_.toNat) e.slot).1),cU x.au,fN x.calls,iw x.seen],Own.box b4 28 [AV.val (.int .i64 0),AV.rows 7 [],AV.rows 15 [],AV.rows 13 [],AV.rows 1 []],Own.gone,Own.gone,Own.gone,Own.gone,Own.gone] _ _ _ at U;refine iU λI a w U=>?_;refine U.ret rfl (.cons (.sx 1) (.cons (.t rfl) aX.nil)) ?_;exact(by rw[YC ae ah aj aG];rfl)
 refine aV λI a w U=>?_;refine U.ret rfl (.cons (.sx 1) (.cons (.t rfl) aX.nil)) ?_;exact(by rw[YD ae ah aj aG];rfl)
end Go.Proofs.YtldbakcpcfdlaaaGreat
