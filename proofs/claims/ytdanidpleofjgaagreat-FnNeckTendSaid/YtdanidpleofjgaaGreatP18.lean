/- Part 18: contracts of functions, plain facts. -/
import Derived.Test.YtdanidpleofjgaaGreatP12
import Derived.Test.YtdanidpleofjgaaGreatP14
set_option linter.all false
set_option maxRecDepth 100000
set_option maxHeartbeats 4000000
namespace Go.Proofs.YtdanidpleofjgaaGreat
open Go Go.RowKit Tryz
attribute [local irreducible] wpList Code.wp Ok
def QK (l:List (aE)) (p:(aE)->Bool) (fv:AV) (hf:∀x:aE,x∈l->lD prog fv [x.av] (AV.bool (p x))):
 Fn prog 259 [bQ l,fv] (AV.bool (hasB p l)):=by
 refine Fn.go 9 func259 ntmps259 (λW I a U=>?_);refine aV λI a w U=>?_;refine U.o (.cl (Hn _ _ _ hf)) λU=>?_;refine di ?_;rfl
def qV (l:List aE) (d:ao):
 Fn prog 110 [bQ l,d.av] (AV.int (placeOf l d)):=by
 refine Fn.go 8 func110 ntmps110 (λW I a U=>?_);refine aV λI a w U=>?_;refine U.o (oJ (ai .tt aC)) λU=>?_;refine U.o (.cl (Hn l (nh d) _ (λv _=>Fn.val (YU v d)))) λU=>?_;refine bc ?_;rfl
def ZV (d:ao) (l:List aE):
 Fn prog 170 [d.av,AV.ptr [bQ l]] (AV.bool (missing l d)):=by
 refine Fn.go 8 func170 ntmps170 (λW I a U=>?_);refine bz λI a w U=>?_;refine U.o (.cl (qV ..)) λU=>?_;refine di ?_;rfl
def p7 {l:List ao} (h:bN l=true) {d:ao} (hd:d∈l):iP d=true:=by
 have:=Hy h d hd;simp[iP,df,aS,this.2.2];omega
def QL {l:List ao} {key:Int} {k:Nat} (hk:k<l.length) (h:∀i,i<k->pL key (ab l i)=false) (hp:pL key (ab l k)=true):bL l key=(ab l k).ar:=by
 have:l.find? (pL key)=some (ab l k):=by
  rw[List.find?_eq_some_iff_getElem];refine⟨hp,k,hk,by simp[ab,hk],λj hj=>?_⟩;have kY:j<l.length:=by omega
  have:=h j hj;simpa[ab,kY] using this
 unfold bL;rw[this]
def QM {l:List ao} {key:Int} {k:Nat} (hk:l.length<=k) (h:∀i,i<k->pL key (ab l i)=false):bL l key=⟨0,0⟩:=by
 have:l.find? (pL key)=none:=by
  rw[List.find?_eq_none];intro x hx;obtain⟨i,hi,rfl⟩:=g7 hx;rw[h i om];simp
 unfold bL;rw[this]
def qW (c:Call) (i:Nat):Bool:=decide (0<=cB c (ab c.aO i).key)&&np (ab c.aA (cB c (ab c.aO i).key).toNat) (ab c.aO i).ar
def QN (c:Call) (k:Nat):(decide (cB c (ab c.aO k).key<0)||!np (ab c.aA (cB c (ab c.aO k).key).toNat) (ab c.aO k).ar)=!qW c k:=by
 unfold qW;have e:decide (cB c (ab c.aO k).key<0)=!decide (0<=cB c (ab c.aO k).key):=by rw[Bool.eq_iff_iff];simp
 rw[e];simp
def Ir {α:Type} [Inhabited α] {p:α->Bool} {l:List α} (h:hasB p l=true):∃x∈l,p x=true:=by
 simp only[hasB,decide_eq_true_eq] at h;obtain⟨k,hk,hp⟩:=Hu h;exact⟨_,bB hk,hp⟩
def vf {c:Call} {key:Int} (h:0<=cB c key):(cB c key).toNat<c.aA.length:=by
 have:=Yj (tH key) c.aA;unfold cB at*;omega
def BA {α:Type} [Inhabited α] (p:α->Bool) (l:List α):(!hasB p l)=de l.length λi=>!p (ab l i):=by
 rw[Bool.eq_iff_iff,js];constructor
 .intro h i hi;simp only[Bool.not_eq_true'] at h⊢;cases hp:p (ab l i)
  .rfl
  rw[DJ (bB hi) hp] at h;cases h
 intro h;simp only[Bool.not_eq_true'];cases hh:hasB p l
 .rfl
 obtain⟨x,hx,hp⟩:=Ir hh;obtain⟨k,hk,rfl⟩:=g7 hx;have:=h k hk;rw[hp] at this;cases this
def ZW (s:Server) (i:Nat):sf s i=(pe s s.waits i&&wO s i):=by
 unfold sf tz pe wO;have e:decide (placeOf s.an (ab s.waits i).bh<0)=!decide (0<=placeOf s.an (ab s.waits i).bh):=by rw[Bool.eq_iff_iff];simp
 rw[e];cases(dU s (ab s.waits i).key !=0)<;>cases decide (0<=placeOf s.an (ab s.waits i).bh)<;>simp[bne]
def BB (s:Server):gQ s=(tw s&&de s.aF.length (se s)&&(de s.an.length (pe s s.an)&&de s.waits.length (pe s s.waits))&&de s.waits.length (wO s)&&de s.aD.length (sh s)):=by
 unfold gQ;have e:de s.waits.length (sf s)=(de s.waits.length (pe s s.waits)&&de s.waits.length (wO s)):=by
  rw[<-Y0];exact Av rfl λi _=>ZW s i
 have e2:de s.an.length (tx s)=de s.an.length (pe s s.an):=rfl;rw[e,e2,YF];cases tw s<;>cases de s.aF.length (se s)<;>cases de s.an.length (pe s s.an)<;>cases de s.waits.length (pe s s.waits)<;>simp
def BC {l:List aE} {d:ao} (h:∀x∈l,x.bh≠d):placeOf l d<0:=by
 rcases Int.lt_or_le (placeOf l d) 0 with hn|hn
 .exact hn
 obtain⟨k,hk,hp⟩:=Hu hn;simp[nh] at hp;exact absurd hp (h _ (bB hk))
def QO (x:Answer) (s:cw):
 Fn prog 211 [x.av,s.av] (AV.bool (np x s)):=by
 refine Fn.go 15 func211 ntmps211 (λW I a U=>?_);refine yt λI a w U=>?_;refine U.q .F (.cl (HG ..)) λU=>?_;refine di ?_;rfl
def ZX (s:Server) (key aq call:Int):
 Fn prog 220 [s.av,AV.int key,AV.int aq,AV.int call] (AV.db [((j3 s key aq call).getD default).av,AV.bool (j3 s key aq call).isSome]):=by
 refine Fn.go 52 func220 ntmps220 (λW I a U=>?_);have lens:s.aF.length<=9223372036854775807/\s.an.length<=9223372036854775807/\s.waits.length<=9223372036854775807/\s.aD.length<=9223372036854775807/\s.bj.length<=9223372036854775807:=⟨U.ln 0 2,U.ln 0 3,U.ln 0 4,U.ln 0 5,U.ln 0 6⟩;refine bA λI a w U=>?_;refine U.alloc rfl bU dR λb8 I a w U=>?_;refine aB λI a w U=>?_;refine St.lo (σ:=Nat) (run 42 9 []) ⟨λk=>[(10,AV.int k)],λk=>[Own.box b8 62 [AV.val (.int .i64 0),AV.val (.int .i64 0),AV.val (.int .i64 0),AV.val (.int .i64 0),AV.val (.int .i64 0),AV.val (.int .i64 0),AV.rows 3 []]],λk=>k<=s.an.length/\∀i,i<k->(oZ s key aq call) (ab s.an i)=false⟩ (λk=>s.an.length-k) 0 U ?aL ?bG;case aL=>exact⟨Nat.zero_le _,λi hi=>by omega⟩
 rintro k I a w al U;obtain⟨hk,aT⟩:=al;refine ct λI a w U=>?_;refine cz (λae=>?_) λae=>?_
 .refine bO λI a w U=>?_;refine U.alloc rfl bU dR λmc I a w U=>?_;refine ax λI a w U=>?_;obtain⟨I,U⟩:=U.fb 1 11;refine U.dk ?_;refine nd ?_;refine dM ?_;refine .q .T (.cl (qL ..)) ?_;refine cj ?_;refine .q .T (.cl (qL ..)) ?_;refine cj ?_;refine .nil ?_;intro I a w U;refine bk ?_;refine U.cd (λah=>?_) λah=>?_
  .change(oZ s key aq call) (ab s.an k)=true at ah;refine aN λI a w U=>?_;refine U.ret rfl (.cons (.sx 0) (.cons (.t rfl) ba.nil)) ?_;exact(by rw[show j3 s key aq call=some (ab s.an k) from PG ae aT ah];rfl)
  change(oZ s key aq call) (ab s.an k)=false at ah;refine aN λI a w U=>?_;have U:=U.drop 1;exact U.ag (k+1) (⟨ae,λi h1=>by rcases Nat.lt_succ_iff_lt_or_eq.1 h1 with h|h;exact aT i h;rw[h];exact ah⟩)
 refine zt ?_;refine U.o (.bd dR aW.nil) λU=>?_;refine aB λI a w U=>?_;refine U.ret rfl (.cons (.sx 0) (.cons (.t rfl) ba.nil)) ?_;exact(by rw[show j3 s key aq call=none from Pf om aT];rfl)
def Is {α:Type} [Inhabited α] {bD:α->Bool} {less:α->α->Bool} (tr:∀{a b d},less a b=true->less b d=true->less a d=true) {l:List α}:
 de l.length (eQ bD less l)=true↔(∀x∈l,bD x=true)/\l.Pairwise λa b=>less a b=true:=by
 rw[js];constructor
 .intro h;refine⟨λx hx=>?_,Pb (R:=λa b=>less a b=true) (λh1 h2=>tr h1 h2) λi h0 hi=>?_⟩
  .obtain⟨k,hk,rfl⟩:=g7 hx;have:=h k hk;unfold eQ at this;rw[Bool.and_eq_true] at this;exact this.1
  have:=h i hi;unfold eQ at this;rw[Bool.and_eq_true,Bool.or_eq_true,decide_eq_true_eq] at this;rcases this.2 with h3|h3
  .omega
  exact h3
 rintro⟨h1,h2⟩ i hi;unfold eQ;rw[Bool.and_eq_true,Bool.or_eq_true,decide_eq_true_eq];refine⟨h1 _ (bB hi),?_⟩;rcases Nat.eq_zero_or_pos i with h|h
 .exact Or.inl h
 exact Or.inr (Bk h2 om hi)
def w4 {l:List aE}:bY l=true↔l.length<=80/\(∀v∈l,ef v=true)/\VS l:=by
 unfold bY;rw[Bool.and_eq_true,decide_eq_true_eq,Is (less:=gu) (λh1 h2=>Y5 h1 h2)];rfl
def zi {l:List ao}:fY l=true↔l.length<=80/\(∀d∈l,lf d=true)/\l.Pairwise λa b=>ee a b=true:=by
 unfold fY;rw[Bool.and_eq_true,decide_eq_true_eq,Is (less:=ee) (λh1 h2=>yW h1 h2)]
def BD {l:List aE} {v:aE} (h:bY l=true) (hv:ef v=true) (hp:placeOf l v.bh<0) (hl:l.length<80):bY (eE l v)=true:=by
 obtain⟨h1,h2,h3⟩:=w4.1 h;refine w4.2 ⟨by rw[Py];omega,λx hx=>?_,Pz h3 (pT hp)⟩;rcases iL.1 hx with rfl|hx
 .exact hv
 exact h2 x hx
def BE {l m:List aE} (h:bY l=true) (U:m.Sublist l):bY m=true:=by
 obtain⟨h1,h2,h3⟩:=w4.1 h;exact w4.2 ⟨Nat.le_trans U.length_le h1,λx hx=>h2 x (U.subset hx),h3.sublist U⟩
def Eg {l m:List ao} (h:fY l=true) (U:m.Sublist l):fY m=true:=by
 obtain⟨h1,h2,h3⟩:=zi.1 h;exact zi.2 ⟨Nat.le_trans U.length_le h1,λx hx=>h2 x (U.subset hx),h3.sublist U⟩
def eM.drop {s:Server} (h:eM s) (slot:Int):eM (eb s slot):=
 ⟨h.aF,BE h.an (List.filter_sublist),BE h.waits (List.filter_sublist),λv hv=>BC λx hx=>pT (h.apart v (qP hv)) x (qP hx),h.bj⟩
def eM.gone {s:Server} (h:eM s) (m:az):eM (kR s m):=(h.drop m.slot).Y7 (by show(s.aF.set _ _).length=3;rw[List.length_set];exact h.aF)
def eM.It {s:Server} (h:eM s) {v:aE} (hc:gH s.waits v=true) (hp:placeOf s.an v.bh<0):eM {s with waits:=eE s.waits v}:=by
 obtain⟨h1,h2,h3⟩:=rY hc;refine⟨h.aF,h.an,BD h.waits h1 h2 h3,λx hx=>?_,h.bj⟩;rcases iL.1 hx with rfl|hx
 .exact hp
 exact h.apart x hx
def Iu {α:Type} [Inhabited α] {p:α->Bool} {l:List α}:hasB p l=true↔∃x∈l,p x=true:=⟨Ir,λ⟨_,hx,hp⟩=>DJ hx hp⟩
def Iv {α:Type} [Inhabited α] {p:α->Bool} {l:List α}:hasB p l=false↔∀x∈l,p x=false:=by
 rw[<-Bool.not_eq_true,Iu];exact⟨λh x hx=>by cases hp:p x;rfl;exact absurd ⟨x,hx,hp⟩ h,λh ⟨x,hx,hp⟩=>by rw[h x hx] at hp;cases hp⟩
def QP {l:List aE} {d:ao}:placeOf l d<0↔∀x∈l,x.bh≠d:=⟨pT,BC⟩
def w5 {l:List ao} {d:ao}:0<=fG l d↔d∈l:=by
 have:=Iu (p:=λe=>decide (e=d)) (l:=l);unfold hasB at this;simp only[decide_eq_true_eq] at this;unfold fG;rw[this];exact⟨λ⟨x,hx,e⟩=>e▸hx,λh=>⟨d,h,rfl⟩⟩
def zj {l:List ao} {d x:ao}:x∈eF l d↔x=d\/x∈l:=by
 unfold eF;split
 .rename_i h;exact⟨.inr,λh'=>h'.elim (λe=>e▸w5.1 h) id⟩
 exact DY
def QQ {l:List ao} {d:ao} (h:fY l=true) (hd:lf d=true) (hl:l.length<80):fY (eF l d)=true:=by
 obtain⟨h1,h2,h3⟩:=zi.1 h;unfold eF;split
 .exact h
 rename_i hn;refine zi.2 ⟨by rw[PA];omega,λx hx=>?_,PM h3 λx hx e=>hn (w5.2 (e▸hx))⟩;rcases DY.1 hx with rfl|hx
 .exact hd
 exact h2 x hx
def BF {α:Type} {l:List α} {n:Nat} {x:α} (h:x∈l.take n++l.drop (n+1)):x∈l:=(yZ l n).subset h
def bH.hO {s:Server} (h:bH s):bH (DU s):=
 ⟨h.site,h.aF,h.an,h.waits,h.aD,Eg h.bj List.filter_sublist,λe=>by show s.bj.filter _=[];rw[h.up e];rfl,h.bD,h.here,h.pV,h.pW,h.apart,h.pf⟩
def Eh {l:List ao} (h:bN l=true):∀d∈l,lf d=true:=λd hd=>p7 h hd
def Iw {s:Server} {m:az} (h:bH s) (hm:bM m=true):∀x∈jR s m,dr x=true:=by
 intro x hx;unfold jR at hx;rcases List.mem_append.1 hx with hx|hx
 .obtain⟨d,hd,rfl⟩:=List.mem_map.1 hx;have:=Eh (ny hm).2.2.2.2.2.2.2.1 d hd;simp only[lf,Bool.and_eq_true] at this;exact this.2
 split at hx
 .rename_i v hv;obtain rfl:x=v.ar:=by simpa using hx
  exact(jv (gy h.an v (A3 hv).1)).2.1
 simp at hx
def bH.put {s:Server} (h:bH s) {v:aE} (hc:gH s.an v=true) (U:bP v.ar.site=bP s.site) (be:dU s v.key≠0) (hl:s.aD.length<80):bH {s with an:=eE s.an v,aD:=eF s.aD v.bh}:=by
 obtain⟨h1,h2,h3⟩:=rY hc;have hp:=jv h1;refine⟨h.site,h.aF,BD h.an h1 h2 h3,h.waits,QQ h.aD (by simp only[lf,Bool.and_eq_true];exact⟨hp.1,hp.2.1⟩) hl,h.bj,h.up,h.bD,λx hx=>?_,h.pV,h.pW,λw hw x hx=>?_,λd hd=>?_⟩
 .rcases iL.1 hx with rfl|hx
  .exact be
  exact h.here x hx
 .rcases iL.1 hx with rfl|hx
  .intro e;have:=h.pW w hw;have e2:w.ar=x.ar:=by have:=congrArg ao.ar e;exact this.symm
   rw[e2] at this;exact this U
  exact h.apart w hw x hx
 rcases zj.1 hd with rfl|hd
 .exact⟨v,iL.2 (.inl rfl),rfl⟩
 exact PL (h.pf d hd)
def bH.QR {s:Server} (h:bH s) {d:ao} (hd:lf d=true) (hl:s.bj.length<80) (hu:s.up=true):bH {s with bj:=eF s.bj d}:=
 ⟨h.site,h.aF,h.an,h.waits,h.aD,QQ h.bj hd hl,(λe=>by rw[hu] at e;cases e),h.bD,h.here,h.pV,h.pW,h.apart,h.pf⟩
def ZY {v:aE} (h:ef v=true):bY [v]=true:=w4.2 ⟨by simp,by simpa using h,by simp[VS]⟩
def QS {o:Option aE} (h:∀v,o=some v->ef v=true):bY o.toList=true:=by
 cases o with
 |none=>rfl
 |some v=>exact ZY (h v rfl)
def QT {s:Server} {m:az} (h:bH s) (hm:bM m=true) {o:Option aE} (ho:∀v,o=some v->ef v=true):bM (mM s m o)=true:=by
 have p:=ny hm;exact tp ⟨by simp[mM],by simp[mM]⟩ (pN h.site) p.2.1 p.2.2.2.1 p.2.2.2.2.1 p.2.2.2.2.2.1 ⟨by simp[mM,cn],by simp[mM,cn]⟩ rZ ⟨by simp[mM,cn],by simp[mM,cn]⟩ ⟨by simp[mM,cn],by simp[mM,cn]⟩ (QS ho) pO wC
def ZZ {s:Server} (h:bH s):∀d∈Bi s,lf d=true:=by
 intro d hd;rcases PN hd with hd|hd
 .simp at hd
 obtain⟨ds,h1,h2⟩:=List.mem_flatten.1 hd;obtain⟨v,hv,rfl⟩:=List.mem_map.1 h1;exact Eh (jv (gy h.waits v hv)).2.2 d h2
def Ei {q:Call} {key:Int}:0<=cB q key↔∃a∈q.aA,a.key=key:=by
 have:=Iu (p:=tH key) (l:=q.aA);unfold hasB at this;rw[decide_eq_true_eq] at this;unfold cB;rw[this];simp[tH]
def w6 {q:Call} {key:Int} (h:0<=cB q key):(cB q key).toNat<q.aA.length/\(ab q.aA (cB q key).toNat).key=key:=by
 refine⟨vf h,?_⟩;unfold cB dm at*;split at h
 .rename_i k hk;obtain⟨h1,h2,_⟩:=List.findIdx?_eq_some_iff_getElem.1 hk;simpa[ab,h1,tH] using h2
 omega
def Z0 (v:Value) (l:List (List AV)) (x:List AV) (i:Nat) (hi:i<=l.length) (hl:l.length<=1048576) (eA:∀r∈l,r.length=3) (hx:x.length=3):
 gG prog 261 [AV.val v,AV.int i,AV.rows 3 [x]] [Own.row v 115 3 l] [] (AV.rows 3 (l.take i++x::l.drop i)):=by
 refine gG.intro 95 func261 rfl ntmps261 rfl aG (λW I a U=>?_);obtain⟨q,cap,rfl,mn⟩:=U.AJ 0 rfl;refine aV λI a w U=>?_;refine U.o (GF du cE .tt .tt ⟨by omega,by omega⟩ mn) λU=>?_;refine bA λI a w U=>?_;refine U.o (z5 du .tt) λU=>?_;rw[show(([x]:List (List AV)).length:Int)=1 from rfl] at U;refine aN λI a w U=>?_;refine U.cd (λae=>?_) λae=>?_
 .exfalso;simp at ae;skip
 refine gY λI a w U=>?_;refine cz (λah=>?_) λah=>?_
 .refine aH λI a w U=>?_;refine U.append 0 rfl du cE rfl .tt .tt rfl (by simp only[List.length_singleton];omega) λwG a w U=>?_;obtain⟨I,U⟩:=U.fr 0 25;have U:=U.drop 0;refine ax λI a w U=>?_;refine U.tg rfl (.cons .x .nil) rfl ?_;exact congrArg (AV.rows 3) (by rw[show i=l.length by omega];simp)
 refine bz λI a w U=>?_;refine U.o (GH du .tt) λU=>?_;refine ax λI a w U=>?_;refine cz (λaj=>?_) λaj=>?_
 .refine zt ?_;have aZ:l≠[]:=by intro e;rw[e] at hi ah;simp at hi ah;omega
  obtain⟨b,oI,he,nb,jB,mE,U⟩:=U.tc 0 rfl aZ;simp only[Value.slice.injEq] at he;obtain⟨rfl,_,rfl⟩:=he;have hA:(l.take i).flatten.length=i*3:=by rw[gM λr hr=>eA r (List.mem_of_mem_take hr),List.length_take,Nat.min_eq_left hi]
  have hB:(l.drop i).flatten.length=(l.length-i)*3:=by rw[gM λr hr=>eA r (List.mem_of_mem_drop hr),List.length_drop]
  rw[show l.flatten=(l.take i).flatten++(l.drop i).flatten by rw[<-List.flatten_append,List.take_append_drop],List.map_append] at U;have gI:([x]:List (List AV)).flatten.length=3:=by simpa using hx
  have hlen:(l.take i++x::l.drop i).length=l.length+1:=by simp;omega
  have mG:∀r∈l.take i++x::l.drop i,r.length=3:=λr hr=>(List.mem_append.1 hr).elim (λh=>eA r (List.mem_of_mem_take h)) λh=>(List.mem_cons.1 h).elim (λe=>e▸hx) λh=>eA r (List.mem_of_mem_drop h);have qF:(l.take i++x::l.drop i).flatten.map some=(l.take i).flatten.map some++([x]:List (List AV)).flatten.map some++(l.drop i).flatten.map some:=by simp
  refine aH λI a w U=>?_;refine U.o (te (hi:=i) du cE .tt .tt rfl om om) λU=>?_;refine bO λI a w U=>?_;refine U.GI (jQ:=l.length+1-i) (xs:=(l.take i).flatten) 0 du qA cE rfl aM .tt .tt om om rfl (by rw[List.drop_zero,List.append_assoc];exact ki _ (List.length_map _)) hA om om om rfl λ{gb A4 a w} uq uC U=>?_;refine aV λI a w U=>?_;refine U.o (j1 (lo:=i) du cE .tt .tt rfl om om) λU=>?_;refine U.m λU=>?_;refine U.yo 1 du cE .tt .tt rfl bt (by simp only[List.length_singleton];omega) (by simp only[List.length_singleton,List.length_append,List.length_map,List.length_replicate,hA];omega) rfl λU=>?_;refine zt ?_;refine U.dt 8 ?_;simp only[TD];refine dM ?_;refine .o (j1 (lo:=i+1) du cE .tt .tt om om om) ?_;refine cj ?_;refine .o (j1 (lo:=i) du cE .tt .tt rfl om om) ?_;refine .nil ?_;intro I a w U;refine U.yp (xs:=(l.drop i).flatten) 1 0 du cE .tt .tt rfl rfl (by rw[List.append_assoc,wg _ (by simp only[List.length_map,hA];omega)];exact ki _ (List.length_map _)) (by rw[hB,Nat.min_eq_left om]) (by rw[lg (by simp only[List.length_map,List.length_append,List.length_replicate,gI,hA];omega)];simp only[List.length_append,List.length_map,List.length_replicate,hA,hB];omega) rfl λU=>?_;rw[GO (by simp only[List.length_map,hA];omega) (by simp only[List.length_map,gI];omega) (by simp only[List.length_map,List.length_replicate,gI,hB];omega)] at U;have U:=U.td (l:=l.take i++x::l.drop i) (cap:=A4) 1 rfl (by simp only[List.length_append,List.length_map,List.length_drop,List.length_replicate,hA,hB,gI];omega) mG om om om (by rw[qF,hlen];exact ki _ (by simp only[List.length_append,List.length_map,hA,hB,gI];omega));rw[show i+(l.length+1-i)=(l.take i++x::l.drop i).length by omega] at U;obtain⟨I,U⟩:=U.fr 1 9;have U:=U.drop 0;refine aB λI a w U=>?_;exact U.tg rfl (.cons (by first|exact .t rfl|exact .nil rfl) .nil) rfl rfl
 refine zt ?_;have aZ:l≠[]:=by intro e;rw[e] at hi ah;simp at hi ah;omega
 obtain⟨b,oI,he,nb,jB,mE,U⟩:=U.tc 0 rfl aZ;simp only[Value.slice.injEq] at he;obtain⟨rfl,_,rfl⟩:=he;have hA:(l.take i).flatten.length=i*3:=by rw[gM λr hr=>eA r (List.mem_of_mem_take hr),List.length_take,Nat.min_eq_left hi]
 have hB:(l.drop i).flatten.length=(l.length-i)*3:=by rw[gM λr hr=>eA r (List.mem_of_mem_drop hr),List.length_drop]
 rw[show l.flatten=(l.take i).flatten++(l.drop i).flatten by rw[<-List.flatten_append,List.take_append_drop],List.map_append] at U;have gI:([x]:List (List AV)).flatten.length=3:=by simpa using hx
 have hlen:(l.take i++x::l.drop i).length=l.length+1:=by simp;omega
 have mG:∀r∈l.take i++x::l.drop i,r.length=3:=λr hr=>(List.mem_append.1 hr).elim (λh=>eA r (List.mem_of_mem_take h)) λh=>(List.mem_cons.1 h).elim (λe=>e▸hx) λh=>eA r (List.mem_of_mem_drop h);have qF:(l.take i++x::l.drop i).flatten.map some=(l.take i).flatten.map some++([x]:List (List AV)).flatten.map some++(l.drop i).flatten.map some:=by simp
 refine bz λI a w U=>?_;refine U.o (te (hi:=l.length+1) du cE .tt .tt om om om) λU=>?_;refine dI λI a w U=>?_;refine U.o (j1 (lo:=i+1) du cE .tt .tt om om om) λU=>?_;refine U.overlaps (tR:=4) 0 func270 rfl aG aG aG du cE aM .tt bt .tt rfl rfl λU=>?_;refine ax λI a w U=>?_;refine U.cd (λaJ=>?_) λaJ=>?_
 .refine wp_seq ?_;refine U.dt 8 ?_;simp only[TD];refine dM ?_;refine .o (j1 (lo:=i+1) du cE .tt .tt om om om) ?_;refine cj ?_;refine .o (j1 (lo:=i) du cE .tt .tt rfl om om) ?_;refine .nil ?_;intro I a w U;refine U.yp (xs:=(l.drop i).flatten) 0 0 du cE .tt .tt rfl rfl (by rw[List.append_assoc,wg _ (by simp only[List.length_map,hA];omega)];exact ki _ (List.length_map _)) (by rw[hB];congr 1;omega) (by simp only[List.length_append,List.length_map,List.length_replicate,hA,hB];omega) rfl λU=>?_;refine aH λI a w U=>?_;refine U.o (j1 (lo:=i) du cE .tt .tt rfl om om) λU=>?_;refine U.m λU=>?_;refine U.yo 0 du cE .tt .tt rfl bt (by simp only[List.length_singleton];omega) (by rw[lg (by simp only[List.length_map,List.length_append,List.length_replicate,hA,hB];omega)];simp only[List.length_singleton,List.length_append,List.length_map,List.length_replicate,hA,hB];omega) rfl λU=>?_;rw[GN (by simp only[List.length_map,hA];omega) (by simp only[List.length_map,gI];omega) (by simp only[List.length_map,List.length_replicate,gI];omega)] at U;have U:=U.td (l:=l.take i++x::l.drop i) (cap:=cap) 0 rfl (by simp only[List.length_append,List.length_map,List.length_drop,List.length_replicate,hA,hB,gI];omega) mG om om om (by rw[qF,hlen];exact ki _ (by simp only[List.length_append,List.length_map,hA,hB,gI];omega));rw[show l.length+1=(l.take i++x::l.drop i).length by omega] at U;obtain⟨I,U⟩:=U.fr 0 0;have U:=U.drop 0;refine aB λI a w U=>?_;exact U.tg rfl (.cons (by first|exact .t rfl|exact .nil rfl) .nil) rfl rfl
 exfalso;simp at aJ;skip
def QU:∀{l:List ao} {d:ao} {k:Nat},k<=l.length->(∀i,i<k->ee (ab l i) d=true)->(k<l.length->ee (ab l k) d=false)->(∀x∈l,x≠d)->l.take k++d::l.drop k=kq l d
 |[],d,k,hk,_,_,_=>by obtain rfl:k=0:=by simpa using hk
                      rfl
 |e::r,d,0,_,_,hn,aZ=>by
  have h1:ee e d=false:=hn bt;have h2:ee d e=true:=by
   cases h3:ee d e
   .exact absurd (DT h1 h3) (aZ e bt)
   rfl
  simp[kq,h2]
 |e::r,d,k+1,hk,h,hn,aZ=>by
  have h2:ee d e=false:=Y9 (h 0 om);have ih:=QU (l:=r) (d:=d) (k:=k) (by simpa using hk) (λi hi=>h (i+1) om) (λhl=>hn (by simpa using hl)) (λx hx=>aZ x (by simp[hx]));simp[kq,h2,ih]
def QV {l:List ao} {d:ao} (h:fG l d<0):∀x∈l,x≠d:=λx hx e=>by
 have:=w5.2 (e▸hx);omega
def QW (s:Server) (d:ao):
 Fn prog 206 [s.av,d.av] (AV.bool (l6 s d)):=by
 refine Fn.go 16 func206 ntmps206 (λW I a U=>?_);refine dI λI a w U=>?_;refine U.o (.cl (qV ..)) λU=>?_;refine bO λI a w U=>?_;refine U.q .F (.cl (Bn ..)) λU=>?_;refine di ?_;rfl
def Z1 (s:Server) (d:ao):
 Fn prog 247 [s.av,d.av] (AV.bool (iT s d)):=by
 refine Fn.go 9 func247 ntmps247 (λW I a U=>?_);refine bO λI a w U=>?_;refine U.o (oJ (ai .tt aC)) λU=>?_;refine U.o (.cl (QK s.waits (qN d) _ (λv _=>Fn.val (PQ v d)))) λU=>?_;refine bc ?_;exact bF (by unfold iT;rw[<-BA];simp)
def Ix (l:List ao) (d:ao) (h:l.length<=1048575):
 Fn prog 248 [bw l,d.av] (bw (eF l d)):=by
 refine Fn.go 31 func248 ntmps248 (λW I a U=>?_);refine bz λI a w U=>?_;refine U.o (.cl (Bn ..)) λU=>?_;refine zt ?_;refine cz (λae=>?_) λae=>?_
 .refine bA λI a w U=>?_;refine U.o (cr (tJ l om) (ai .r aC)) λU=>?_;refine bc ?_;exact congrArg (AV.rows 3) (by unfold eF;rw[if_pos ae])
 refine ax λI a w U=>?_;refine St.lo (σ:=Nat) (5::(run 14 11 [])) ⟨λk=>[(5,AV.int k)],λk=>[],λk=>k<=l.length/\∀i,i<k->ee (ab l i) d=true⟩ (λk=>l.length-k) 0 U ?aL ?bG;case aL=>exact⟨Nat.zero_le _,λi hi=>by omega⟩
 rintro k I a w al U;obtain⟨hk,aT⟩:=al;refine wp_seq<|wp_seq<|U.dk ?_;refine lh ?_;refine .q .T (.cl (DQ ..)) ?_;refine aX ?_;refine .nil ?_;intro I a w U;refine bk ?_;refine cz (λah=>?_) λah=>?_
 .refine aN λI a w U=>?_;exact U.ag (k+1) (⟨by omega,λi h1=>by rcases Nat.lt_succ_iff_lt_or_eq.1 h1 with h|h;exact aT i h;rw[h];exact ah.2⟩)
 refine zt ?_;refine U.da 5 ?_;simp only[TD];refine aX ?_;refine gv.lZ (DX l om) (ai .r aC) ?_;refine cj ?_;refine .o (.li [d.cells] fE (.u .nil)) ?_;refine .nil ?_;intro I a w U;obtain⟨w7,U⟩:=U.C9 (d:=26);refine U.eJ [0] (Z0 _ (l.map ao.cells) d.cells k (by rw[List.length_map];exact hk) iv (λr hr=>by obtain⟨u,_,rfl⟩:=List.mem_map.1 hr;rfl) rfl) (ai .tt (ai .tt (ai .tt aC))) rfl aM rfl λI a w U=>?_;refine bc ?_;exact congrArg (AV.rows 3) (by unfold eF;rw[if_neg om,<-QU hk aT (λhl=>by rcases ah with h|h;omega;exact h) (QV ae),List.map_append,List.map_cons,List.map_take,List.map_drop])
def Ej (l:List aE) (slot:Int) (h:l.length<=1048576) (hd:∀v∈l,v.aR.length<=1048576):
 Fn prog 234 [bQ l,AV.int slot] (AV.db [bQ (l.filter (eC slot)),bQ (l.filter (λv=>!eC slot v))]):=by
 refine Fn.go 34 func234 ntmps234 (λW I a U=>?_);have U:=U.fV (sz:=7) 62;have U:=U.fV (sz:=7) 62;refine jf λI a w U=>?_;refine St.lo (σ:=Nat×Value×Value) (run 2 6 (9::(run 20 12 []))) ⟨λ⟨k,u,v⟩=>[(12,AV.int k),(6,AV.val u),(7,AV.val v)],λ⟨k,u,v⟩=>[Own.row u 62 7 (((l.take k).filter (eC slot)).map aE.cells),Own.row v 62 7 (((l.take k).filter (λv=>!eC slot v)).map aE.cells)],λ⟨k,u,v⟩=>k<=l.length⟩ (λ⟨k,u,v⟩=>l.length-k) (0,.slice none 0 0,.slice none 0 0) U ?aL ?bG;case aL=>exact Nat.zero_le _
 rintro⟨k,u,v⟩ I a w al U;have hk:k<=l.length:=al;have Qq:=rX (eC slot) l k;have Qr:=rX (λv=>!eC slot v) l k;dsimp only at U;refine ax λI a w U=>?_;refine cz (λae=>?_) λae=>?_
 .refine aH λI a w U=>?_;refine U.alloc rfl bU dR λb9 I a w U=>?_;refine ax λI a w U=>?_;obtain⟨I,U⟩:=U.fb 2 9;refine aH λI a w U=>?_;refine U.o (.c1 (Ht ..)) λU=>?_;refine aB λI a w U=>?_;refine U.cd (λah=>?_) λah=>?_
  .change(eC slot) (ab l k)=true at ah;refine aH λI a w U=>?_;refine U.o (.c1 (wP _ (hd _ (bB ae)))) λU=>?_;refine U.o (.li [(ab l k).cells] ju (.u .nil)) λU=>?_;refine U.ap 0 λwG a w U=>?_;rw[bV,<-nu (p:=(eC slot)) ae ah,show(l.take k).filter (λv=>!eC slot v)=(l.take (k+1)).filter (λv=>!eC slot v) from(nv ae (by show(!_)=false;rw[ah];rfl)).symm] at U;refine aN λI a w U=>?_;have U:=U.drop 2;exact U.ag (k+1,wG,v) (ae)
  change(eC slot) (ab l k)=false at ah;refine aH λI a w U=>?_;refine U.o (.c1 (wP _ (hd _ (bB ae)))) λU=>?_;refine U.o (.li [(ab l k).cells] ju (.u .nil)) λU=>?_;refine U.ap 1 λv30 a w U=>?_;rw[bV,<-nu (p:=(λv=>!eC slot v)) ae (by show(!_)=true;rw[ah];rfl),show(l.take k).filter (eC slot)=(l.take (k+1)).filter (eC slot) from(nv ae ah).symm] at U;refine aN λI a w U=>?_;have U:=U.drop 2;exact U.ag (k+1,u,v30) (ae)
 refine zt ?_;refine aY λI a w U=>?_;obtain⟨I,U⟩:=U.fr 0 4;obtain⟨I,U⟩:=U.fr 1 5;refine U.rt ?_;exact(by rw[List.take_of_length_le om];rfl)
def QX (l:List ao) (slot:Int) (h:l.length<=1048576):
 Fn prog 235 [bw l,AV.int slot] (AV.db [bw (l.filter (gh slot)),bw (l.filter (λd=>!gh slot d))]):=by
 refine Fn.go 32 func235 ntmps235 (λW I a U=>?_);have U:=U.fV (sz:=3) 115;have U:=U.fV (sz:=3) 115;refine jf λI a w U=>?_;refine St.lo (σ:=Nat×Value×Value) (run 2 6 (9::(run 18 12 []))) ⟨λ⟨k,u,v⟩=>[(12,AV.int k),(6,AV.val u),(7,AV.val v)],λ⟨k,u,v⟩=>[Own.row u 115 3 (((l.take k).filter (gh slot)).map ao.cells),Own.row v 115 3 (((l.take k).filter (λd=>!gh slot d)).map ao.cells)],λ⟨k,u,v⟩=>k<=l.length⟩ (λ⟨k,u,v⟩=>l.length-k) (0,.slice none 0 0,.slice none 0 0) U ?aL ?bG;case aL=>exact Nat.zero_le _
 rintro⟨k,u,v⟩ I a w al U;have hk:k<=l.length:=al;have Qq:=rX (gh slot) l k;have Qr:=rX (λd=>!gh slot d) l k;dsimp only at U;refine ax λI a w U=>?_;refine cz (λae=>?_) λae=>?_
 .refine aH λI a w U=>?_;refine U.alloc rfl cE fh λb9 I a w U=>?_;refine ax λI a w U=>?_;obtain⟨I,U⟩:=U.fb 2 9;refine aH λI a w U=>?_;refine U.o (.c1 (Ht ..)) λU=>?_;refine aB λI a w U=>?_;refine U.cd (λah=>?_) λah=>?_
  .change(gh slot) (ab l k)=true at ah;refine aH λI a w U=>?_;refine U.o (.li [(ab l k).cells] fE (.u .nil)) λU=>?_;refine U.ap 0 λw8 a w U=>?_;rw[bV,<-nu (p:=(gh slot)) ae ah,show(l.take k).filter (λd=>!gh slot d)=(l.take (k+1)).filter (λd=>!gh slot d) from(nv ae (by show(!_)=false;rw[ah];rfl)).symm] at U;refine aN λI a w U=>?_;have U:=U.drop 2;exact U.ag (k+1,w8,v) (ae)
  change(gh slot) (ab l k)=false at ah;refine aH λI a w U=>?_;refine U.o (.li [(ab l k).cells] fE (.u .nil)) λU=>?_;refine U.ap 1 λBG a w U=>?_;rw[bV,<-nu (p:=(λd=>!gh slot d)) ae (by show(!_)=true;rw[ah];rfl),show(l.take k).filter (gh slot)=(l.take (k+1)).filter (gh slot) from(nv ae ah).symm] at U;refine aN λI a w U=>?_;have U:=U.drop 2;exact U.ag (k+1,u,BG) (ae)
 refine zt ?_;refine aY λI a w U=>?_;obtain⟨I,U⟩:=U.fr 0 4;obtain⟨I,U⟩:=U.fr 1 5;refine U.rt ?_;exact(by rw[List.take_of_length_le om];rfl)
def Iy {α:Type}:∀{l:List (List α)} {sz:Nat},(∀r∈l,r.length=sz)->∀{i:Nat},l.flatten.drop (i*sz)=(l.drop i).flatten
 |l,sz,h,0=>by simp
 |[],sz,h,i+1=>by simp
 |x::r,sz,h,i+1=>by
  have hx:x.length=sz:=h x bt;have ih:=Iy (l:=r) (sz:=sz) (λy hy=>h y (by simp[hy])) (i:=i);rw[List.flatten_cons,List.drop_succ_cons,<-ih,show(i+1)*sz=x.length+i*sz by rw[hx,Nat.succ_mul,Nat.add_comm],List.drop_append];simp
def iM {α:Type} (p:α->Bool) (l:List α) (j:Nat):List α:=kp p l j++l.drop (kp p l j).length
section
variable {α:Type} {p:α->Bool} {l:List α} {j:Nat}
def Iz:(kp p l j).length<=j:=by
 have h1:=List.length_filter_le (λd=>!p d) (l.take j);have h2:(l.take j).length<=j:=by simp;omega
 unfold kp;omega
def Z2 (h:j<=l.length):(iM p l j).length=l.length:=by
 have:=Iz (p:=p) (l:=l) (j:=j);unfold iM;simp;omega
def Z3:kp p l l.length=l.filter λd=>!p d:=by unfold kp;rw[List.take_length]
variable [Inhabited α]
def Ek (h:j<l.length) (hp:p (ab l j)=false):kp p l (j+1)=kp p l j++[ab l j]:=nu h (by rw[hp];rfl)
def BH (h:j<l.length) (hp:p (ab l j)=true):kp p l (j+1)=kp p l j:=nv h (by rw[hp];rfl)
def Z4 (h:j<l.length):ab (iM p l j) j=ab l j:=by
 have:=Iz (p:=p) (l:=l) (j:=j);unfold iM ab;rw[List.getD_eq_getElem?_getD,List.getD_eq_getElem?_getD,List.getElem?_append_right this,List.getElem?_drop];congr 2;omega
def Z5 (h:j<l.length) (hp:p (ab l j)=false):(iM p l j).set (kp p l j).length (ab l j)=iM p l (j+1):=by
 have:=Iz (p:=p) (l:=l) (j:=j);have hi:(kp p l j).length<l.length:=by omega
 unfold iM;rw[Ek h hp,List.set_append_right _ _ (Nat.le_refl _),Nat.sub_self];have e:l.drop (kp p l j).length=l[(kp p l j).length]::l.drop ((kp p l j).length+1):=List.drop_eq_getElem_cons hi;rw[e,List.set_cons_zero];simp
def Z6 (h:j<l.length) (hp:p (ab l j)=true):iM p l (j+1)=iM p l j:=by unfold iM;rw[BH h hp]
def IA (h:0<=dm p l):kp p l ((dm p l).toNat+1)=l.take (dm p l).toNat:=by
 obtain⟨h1,h2,h3⟩:=DZ h;rw[BH h1 h2];unfold kp;rw[List.filter_eq_self];intro x hx;obtain⟨i,hi,rfl⟩:=List.getElem_of_mem hx;have qp:i<(dm p l).toNat/\i<l.length:=by simp at hi;omega
 have:=h3 i qp.1;simpa[ab,qp.2] using this
def QY (h:0<=dm p l):iM p l ((dm p l).toNat+1)=l:=by
 have h1:=(DZ h).1;unfold iM;rw[IA h,List.length_take,Nat.min_eq_left om,List.take_append_drop]
def Z7 (h:dm p l<0):(l.filter λd=>!p d)=l:=by
 rw[List.filter_eq_self];intro x hx;obtain⟨i,hi,rfl⟩:=List.getElem_of_mem hx;have:=Bb h i hi;simpa[ab,hi] using this
end
def Z8 (v:Value) (l:List (List AV)) (i:Nat) (hi:i<l.length) (hl:l.length<=1048576) (eA:∀r∈l,r.length=7):
 bT prog 264 [AV.val v,AV.int i,AV.int ((i:Int)+1)] [Own.row v 62 7 l] (λ_:Value=>True) (λu=>[Own.row u 62 7 (l.take i++l.drop (i+1))]) AV.val:=by
 refine bT.intro 33 func264 rfl ntmps264 rfl aG (λW I a U=>?_);obtain⟨q,cap,rfl,mn⟩:=U.AJ 0 rfl;refine dI λI a w U=>?_;refine U.o (NV (lo:=i) (hi:=i+1) (mx:=l.length) ea bU .tt .tt .tt .tt rfl om rfl om om om) λU=>?_;refine aN λI a w U=>?_;refine U.cd (λae=>?_) λae=>?_
 .exfalso;simp only[B] at ae;omega;skip
 refine aN λI a w U=>?_;have aZ:l≠[]:=by intro e;rw[e] at hi;simp at hi
 obtain⟨b,oI,he,nb,jB,mE,U⟩:=U.tc 0 rfl aZ;simp only[Value.slice.injEq] at he;obtain⟨rfl,_,rfl⟩:=he;have hF:l.flatten.length=l.length*7:=gM eA;have hB:(l.drop (i+1)).flatten.length=(l.length-(i+1))*7:=by rw[gM λr hr=>eA r (List.mem_of_mem_drop hr),List.length_drop]
 have hlen:(l.take i++l.drop (i+1)).length=i+(l.length-(i+1)):=by simp;omega
 have mG:∀r∈(l.take i++l.drop (i+1)),r.length=7:=λr hr=>(List.mem_append.1 hr).elim (λh=>eA r (List.mem_of_mem_take h)) λh=>eA r (List.mem_of_mem_drop h);refine U.dt 6 ?_;simp only[TD];refine cj ?_;refine .o (te (hi:=i) ea bU .tt .tt rfl om om) ?_;refine cj ?_;refine .o (G5 (lo:=i+1) ea bU .tt .tt om om om) ?_;refine .nil ?_;intro I a w U;refine U.NY (xs:=(l.drop (i+1)).flatten) 0 ea bU .tt .tt rfl (by rw[List.drop_append_of_le_length (by simp only[List.length_map,hF];exact Nat.mul_le_mul_right _ om),<-List.map_drop,Iy eA];exact ki _ (List.length_map _)) hB om (by simp only[List.length_append,List.length_map,List.length_replicate,hF,hB];omega) rfl λU=>?_;refine bO λI a w U=>?_;refine U.o (NX (lo:=i+(l.length-(i+1))) (hi:=l.length) ea bU .tt .tt .tt rfl rfl om om) λU=>?_;refine U.G7 0 ea bU rfl ju .tt om rfl (by rw[lg]<;>simp only[List.length_append,List.length_map,List.length_replicate,hF,hB]<;>omega) λU=>?_;have U:=U.td (l:=(l.take i++l.drop (i+1))) (cap:=cap) 0 rfl (by rw[lg,lg]<;>(try rw[lg])<;>simp only[List.length_append,List.length_map,List.length_replicate,hF,hB]<;>omega) mG om om om (N1 eA hi);rw[<-hlen] at U;refine aB λI a w U=>?_;refine U.bJ _ [0] rfl (.cons (.t rfl) .nil) trivial rfl rfl
def Z9 {p:ao->Bool} {l:List ao} {j:Nat} {R Y:List (Option AV)} (h:(iM p l j).length=l.length):(over (((iM p l j).map ao.cells).flatten.map some++R) ((kp p l j).length*3) Y).take (((kp p l j).map ao.cells).length*3)=((kp p l j).map ao.cells).flatten.map some:=by
 have hA:((kp p l j).map ao.cells).flatten.length=(kp p l j).length*3:=by
  rw[gM (sz:=3) λr hr=>by obtain⟨d,_,rfl⟩:=List.mem_map.1 hr;rfl,List.length_map]
 have e:((iM p l j).map ao.cells).flatten=((kp p l j).map ao.cells).flatten++((l.drop (kp p l j).length).map ao.cells).flatten:=by
  unfold iM;rw[List.map_append,List.flatten_append]
 rw[List.length_map,e,List.map_append,N0 (by simp only[List.length_append,List.length_map,hA];omega),List.append_assoc];exact List.take_left' (by rw[List.length_map,hA])
def aaa (v:Value) (l:List ao) (p:ao->Bool) (fv:AV) (O:Own) (hl:l.length<=1048576) (hf:∀x,x∈l->AY prog fv [x.av] [O] (AV.bool (p x))):
 gG prog 209 [AV.val v,fv] [Own.row v 115 3 (l.map ao.cells),O] [Own.row v 115 3 (l.map ao.cells),O] (AV.int (dm p l)):=by
 refine gG.intro 19 func209 rfl ntmps209 rfl aG (λW I a U=>?_);refine aH λI a w U=>?_;refine U.o (lC 0 du .tt rfl) λU=>?_;refine ax λI a w U=>?_;refine St.lo (σ:=Nat) (run 2 4 (run 11 8 [])) ⟨λk=>[(8,AV.int k)],λk=>[Own.row v 115 3 (l.map ao.cells),O],λk=>k<=l.length/\∀i,i<k->p (ab l i)=false⟩ (λk=>l.length-k) 0 U ?aL ?bG;case aL=>exact⟨Nat.zero_le _,λi hi=>by omega⟩
 rintro k I a w al U;obtain⟨hk,aT⟩:=al;dsimp only at U;refine ax λI a w U=>?_;refine U.cd (λae=>?_) λae=>?_
 .simp only[B,List.length_map] at ae;refine bO λI a w U=>?_;obtain⟨b,cap,rfl⟩:=U.ia 0 rfl iv;refine U.o (gq du cE .tt .tt (λ_=>by simp only[List.length_map];omega)) λU=>?_;refine U.o (rG 0 cE .tt rfl (λ_=>by exact ey ae) rfl) λU=>?_;refine U.NZ [1] (hf _ (bB ae)) .tt (ai .tt aC) rfl aM rfl λI a w U=>?_;refine zt ?_;refine U.cd (λah=>?_) λah=>?_
  .refine aB λI a w U=>?_;refine U.bJ () [0,1] rfl (.cons (.t rfl) .nil) trivial rfl (fM (ng ae aT ah).symm)
  refine aB λI a w U=>?_;exact U.ag (k+1) (⟨ae,λi h1=>by rcases Nat.lt_succ_iff_lt_or_eq.1 h1 with h|h;exact aT i h;rw[h];exact ah⟩)
 simp only[B,List.length_map] at ae;refine zt ?_;refine ax λI a w U=>?_;refine U.bJ () [0,1] rfl (.cons (.t rfl) .nil) trivial rfl (fM (mF om aT).symm)
def IB (v:Value) (l:List ao) (p:ao->Bool) (fv:AV) (O:Own) (hl:l.length<=1048576) (hf:∀x,x∈l->AY prog fv [x.av] [O] (AV.bool (p x))):
 bT prog 244 [AV.val v,fv] [Own.row v 115 3 (l.map ao.cells),O] (λ_:Value=>True) (λu=>[Own.row u 115 3 ((l.filter λd=>!p d).map ao.cells),O]) AV.val:=by
 refine bT.intro 42 func244 rfl ntmps244 rfl aG (λW I a U=>?_);refine aV λI a w U=>?_;refine U.eJ [0,1] (aaa v l p fv O hl hf) (ai .tt (ai .tt aC)) rfl aM rfl λI a w U=>?_;refine aN λI a w U=>?_;refine U.cd (λae=>?_) λae=>?_
 .refine aB λI a w U=>?_;simp only[B] at ae;refine U.bJ v [0,1] rfl (.cons (.t rfl) .nil) trivial (by rw[Z7 om];rfl) rfl
 refine wp_skip<|bk<|wp_seq<|wp_seq ?_;simp only[B] at ae;have uq:=YS p l;have h0:0<=dm p l:=by omega
 obtain⟨h1,h2,h3⟩:=DZ h0;obtain⟨b,cap,rfl⟩:=U.ia 0 rfl iv;rw[show l.map ao.cells=(iM p l ((dm p l).toNat+1)).map ao.cells from by rw[QY h0]] at U;rw[show((iM p l ((dm p l).toNat+1)).map ao.cells).length=(l.map ao.cells).length from by rw[QY h0]] at U;refine aN λI a w U=>?_;refine St.FV (σ:=Nat) (run 3 5 (run 20 16 [])) ⟨λj=>[(6,AV.int j),(5,AV.int (kp p l j).length)],λj=>[Own.row (.slice (some ⟨b,0,none⟩) (l.map ao.cells).length cap) 115 3 ((iM p l (j)).map ao.cells),O],λj=>j<=l.length/\(kp p l j).length<j⟩ (λj=>l.length-j) ((dm p l).toNat+1) U rfl ?aL ?aab ?bG;case aL=>exact⟨by omega,by rw[IA h0,List.length_take];omega⟩
 case aab=>exact(Env.dq rfl (by exact congrArg AV.int om) (Env.dq rfl (by exact congrArg AV.int (by rw[IA h0,List.length_take];omega)) Env.le_nil))
 rintro j I a w al U;obtain⟨hj,hkj⟩:=al;dsimp only at U;have lB:=Z2 (p:=p) hj;have hle:(l.map ao.cells).length=((iM p l (j)).map ao.cells).length:=by rw[List.length_map,List.length_map,lB]
 refine aH λI a w U=>?_;refine U.o (lC 0 du .tt rfl) λU=>?_;refine ax λI a w U=>?_;refine U.cd (λah=>?_) λah=>?_
 .simp only[B,List.length_map] at ah;have ah:j<l.length:=by omega
  refine aH λI a w U=>?_;rw[hle] at U;refine U.o (gq du cE .tt .tt (λ_=>by simp only[List.length_map];omega)) λU=>?_;refine U.o (rG 0 cE .tt rfl (λ_=>by show((iM p l j).map ao.cells)[j]?=some (ab l j).cells;rw[<-Z4 (p:=p) ah];exact ey om) rfl) λU=>?_;refine U.alloc rfl cE fh λb7 I a w U=>?_;refine ax λI a w U=>?_;obtain⟨I,U⟩:=U.fb 2 7;refine aH λI a w U=>?_;refine U.NZ [1] (hf _ (bB ah)) .tt (ai .tt aC) rfl aM rfl λI a w U=>?_;refine ax λI a w U=>?_;refine cz (λaj=>?_) λaj=>?_
  .refine wp_seq ?_;have hw:(kp p l j).length<(iM p l j).length:=by omega
   refine aV λI a w U=>?_;refine U.o (gq du cE .tt .tt (λ_=>by simp only[List.length_map];omega)) λU=>?_;refine U.jZ 0 cE .tt .tt rfl (by exact ey hw) rfl rfl λa w U=>?_;refine gY λI a w U=>?_;have U:=U.drop 2;rw[Int.toNat_natCast (kp p l j).length] at U;rw[show((iM p l (j)).map ao.cells).set (kp p l j).length (ab l j).cells=(iM p l (j+1)).map ao.cells from by rw[<-Z5 ah aj,List.map_set]] at U;rw[<-hle] at U;refine U.again (j+1) ?ij ?ik dD ?il (by repeat(first|exact Env.le_rfl|refine Env.hP rfl ?_));case ij=>omega
   case ik=>exact⟨ah,by rw[Ek ah aj,List.length_append];simp;omega⟩
   case il=>exact(Env.dq rfl dD (Env.dq rfl (by first|exact congrArg AV.int (by rw[Ek ah aj,List.length_append];simp)|exact congrArg AV.int (by rw[BH ah aj])) Env.le_nil))
  refine aN λI a w U=>?_;have U:=U.drop 2;rw[<-hle,<-Z6 ah aj] at U;refine U.again (j+1) ?mR ?mS dD ?mT (by repeat(first|exact Env.le_rfl|refine Env.hP rfl ?_));case mR=>omega
  case mS=>exact⟨ah,by rw[BH ah aj];omega⟩
  case mT=>exact(Env.dq rfl dD (Env.dq rfl (by first|exact congrArg AV.int (by rw[Ek ah aj,List.length_append];simp)|exact congrArg AV.int (by rw[BH ah aj])) Env.le_nil))
 simp only[B,List.length_map] at ah;refine zt ?_;refine aH λI a w U=>?_;have aZ:((iM p l (j)).map ao.cells)≠[]:=by intro e;have:=congrArg List.length e;simp only[List.length_map,List.length_nil] at this;omega
 obtain⟨b2,oI,he,nb,jB,mE,U⟩:=U.tc 0 rfl aZ;simp only[Value.slice.injEq,Option.some.injEq,Addr.mk.injEq] at he;obtain⟨⟨rfl,_⟩,_,rfl⟩:=he;refine U.o (G5 (lo:=(kp p l j).length) du cE .tt .tt rfl iv (by rw[hle];exact nb)) λU=>?_;have hF:((iM p l (j)).map ao.cells).flatten.length=((iM p l (j)).map ao.cells).length*3:=gM (λr hr=>by obtain⟨d,_,rfl⟩:=List.mem_map.1 hr;rfl);refine U.G7 0 du cE rfl fE .tt iv rfl (by simp only[List.length_append,List.length_map,List.length_replicate,hF,lB];omega) λU=>?_;have U:=U.td (l:=(kp p l j).map ao.cells) (cap:=cap) 0 rfl (by rw[lg]<;>simp only[List.length_append,List.length_map,List.length_replicate,hF,lB]<;>simp only[List.length_map,lB] at nb<;>omega) (λr hr=>by obtain⟨d,_,rfl⟩:=List.mem_map.1 hr;rfl) (by rw[List.length_map];simp only[List.length_map,lB] at nb;omega) mE jB (Z9 lB);rw[show((kp p l j).map ao.cells).length=(kp p l j).length from List.length_map _] at U;refine aH λI a w U=>?_;refine U.o (te (hi:=(kp p l j).length) du cE .tt .tt rfl (by simp only[List.length_map,lB] at nb;omega) mE) λU=>?_;refine ax λI a w U=>?_;obtain rfl:j=l.length:=by omega
 rw[Z3] at U;refine U.bJ _ [0,1] rfl (.cons (.t rfl) .nil) trivial (by rw[List.length_map];rfl) rfl
def QZ {l ds:List ao} {k:Nat} (h:k<ds.length):(ds.take (k+1)).foldl eF l=eF ((ds.take k).foldl eF l) (ab ds k):=by
 rw[ez h,List.foldl_append];rfl
def Q0 {l vs:List aE} {k:Nat} (hv:VS vs) (hk:k<vs.length) (hp:placeOf l (ab vs k).bh<0):eE (iU l (vs.take k)) (ab vs k)=iU l (vs.take (k+1)):=by
 rw[D0 hk,gS,if_pos];refine BC λx hx=>?_;rcases HI hx with h|h
 .obtain⟨i,hi,rfl⟩:=g7 h;have jm:i<k:=by simp at hi;omega
  have e:ab (vs.take k) i=ab vs i:=by unfold ab;simp[List.getD_eq_getElem?_getD,List.getElem?_take,jm]
  rw[e];exact PI hv om hk om
 exact pT hp x h
def aac (s:Server) (d:ao):
 Fn prog 263 [d.av,AV.ptr s.cells] (AV.bool (!l6 s d)):=by
 refine Fn.go 8 func263 ntmps263 (λW I a U=>?_);refine bz λI a w U=>?_;refine U.o (.c2 (QW ..)) λU=>?_;refine di ?_;rfl
def aad (s:Server) (d:ao) (x:AV):
 Fn prog 247 [s.Zc x,d.av] (AV.bool (iT s d)):=by
 refine Fn.go 9 func247 ntmps247 (λW I a U=>?_);refine bO λI a w U=>?_;refine U.o (oJ (ai .tt aC)) λU=>?_;refine U.o (.cl (QK s.waits (qN d) _ (λv _=>Fn.val (PQ v d)))) λU=>?_;refine bc ?_;exact bF (by unfold iT;rw[<-BA];simp)
def aae (b:Nat) (s:Server) (x:AV) (d:ao):
 gG prog 265 [d.av,AV.val (.pointer (some ⟨b,0,none⟩))] [Own.box b 43 [AV.int s.site,AV.bool s.up,s7 s.aF,bQ s.an,bQ s.waits,bw s.aD,x]] [Own.box b 43 [AV.int s.site,AV.bool s.up,s7 s.aF,bQ s.an,bQ s.waits,bw s.aD,x]] (AV.bool (!iT s d)):=by
 refine gG.intro 8 func265 rfl ntmps265 rfl aG (λW I a U=>?_);refine bz λI a w U=>?_;refine U.o (.c2 (aad s d x)) λU=>?_;refine aB λI a w U=>?_;refine U.bJ () [0] rfl (.cons (.t rfl) .nil) trivial rfl rfl
structure mY (l:List Answer) (v:Answer) (k:Nat) (done:Bool) (out:List Answer):Prop where
 hk:k<=l.length
 eq:c7 l v=if done then out++l.drop k else out++c7 (l.drop k) v
 len:out.length<=k+done.toNat
def nB (q:Call):Nat->List ao
 |0=>q.aO
 |k+1=>nB q k++ni (fy q) (ab q.aA k)
def Q1 (q:Call):∀k,k<=q.aA.length->nB q k=q.aO++((q.aA.take k).map (ni (fy q))).flatten
 |0,_=>by simp[nB]
 |k+1,h=>by
  show nB q k++_=_;rw[Q1 q k om,ez om,List.map_append,List.flatten_append,List.append_assoc];simp
def IC {q:Call} {k:Nat} (h:k<q.aA.length):nB q (k+1)=nB q k++ni (fy q) (ab q.aA k):=rfl
def Q2 (q:Call):∀k,k<=q.aA.length->(nB q k).length<=q.aO.length+k
 |0,_=>by simp[nB]
 |k+1,h=>by
  have ih:=Q2 q k om;rw[IC om,List.length_append];have:(ni (fy q) (ab q.aA k)).length<=1:=by unfold ni;split<;>simp
  omega
def BI {l:List aE} {d:ao} (h:decide (placeOf l d<0)=false):0<=placeOf l d/\placeOf l d<l.length/\iI l d=some (ab l (placeOf l d).toNat):=by
 have hp:0<=placeOf l d:=by simpa using h
 have ha:iI l d=some (ab l (placeOf l d).toNat):=by unfold iI;rw[if_pos hp]
 refine⟨hp,?_,ha⟩;have:=(Bf hp).1;omega
def aaf {l:List ao} {d:ao} {k:Nat} (h:l.Pairwise λa b=>a≠b) (hk:k<l.length) (e:ab l k=d):l.filter (λx=>!decide (x=d))=l.take k++l.drop (k+1):=by
 have e1:l=l.take k++d::l.drop (k+1):=by rw[<-e,<-lE hk,List.take_append_drop]
 have hp:=h;rw[e1,List.pairwise_append,List.pairwise_cons] at hp;conv=>lhs;rw[e1]
 rw[List.filter_append,List.filter_cons_of_neg bt,List.filter_eq_self.2 λx hx=>(by simpa using hp.2.2 x hx d bt),List.filter_eq_self.2 λx hx=>(by simpa usingλe=>hp.2.1.1 x hx e.symm)]
def aag {s:Server} {d:ao} (h:fY s.aD=true):s.aD.filter (λx=>!decide (x=d))=if 0<=fG s.aD d then s.aD.take (fG s.aD d).toNat++s.aD.drop ((fG s.aD d).toNat+1) else s.aD:=by
 split
 .rename_i hi;refine aaf ((zi.1 h).2.2.imp λ{a b} hl e=>?_) (PK hi) (of_decide_eq_true (DZ (p:=λe=>decide (e=d)) hi).2.1);subst e;rw[Be] at hl;cases hl
 rename_i hi;exact List.filter_eq_self.2 λx hx=>by simpa using QV om x hx
def aah {au more:List az} {k:Nat} (hr:au.length<=60) (hk:k<=more.length) (fZ:k<=60-au.length) (h:¬(k<more.length/\(au++more.take k).length<60)):au++more.take k=eB au more:=by
 unfold eB;have hl:(more.take k).length=k:=by simp;omega
 rw[List.length_append,hl] at h;congr 1;by_cases hm:k<more.length
 .have:k=60-au.length:=by omega
  rw[this]
 have:k=more.length:=by omega
 rw[this,List.take_length,List.take_of_length_le om]
def aai (au:List az):eB au []=au:=by simp[eB]
def ID {α:Type} [Inhabited α] {l:List α} {x:α} (n:Nat) (h:x∈l):x=ab l n\/x∈l.take n++l.drop (n+1):=by
 obtain⟨k,hk,rfl⟩:=g7 h;by_cases e:k=n
 .exact .inl (by rw[e])
 right;rw[List.mem_append];rcases Nat.lt_or_gt_of_ne e with bK|bK
 .left;rw[List.mem_iff_getElem];exact⟨k,by simp;omega,by simp[ab,hk]⟩
 right;rw[List.mem_iff_getElem];exact⟨k-(n+1),by simp;omega,by simp[ab];rw[List.getElem?_eq_getElem hk];simp;congr 1;omega⟩
def Q3:∀{vs l:List aE},(∀u∈l,∀v∈vs,u.bh≠v.bh)->(vs.Pairwise λa b=>a.bh≠b.bh)->∀x,x∈iU l vs↔x∈l\/x∈vs
 |[],l,_,_,x=>by simp[iU]
 |v::r,l,h,hp,x=>by
  rw[List.pairwise_cons] at hp;have e:gS l v=eE l v:=by
   unfold gS;rw[if_pos (BC λu hu=>h u hu v bt)]
  show x∈iU (gS l v) r↔_;rw[e,Q3 (λu hu y hy=>?_) hp.2,iL,List.mem_cons]
  .constructor
   .rintro((h1|h1)|h1)<;>simp[h1]
   rintro(h1|h1|h1)<;>simp[h1]
  rcases iL.1 hu with rfl|hu
  .exact hp.1 y hy
  exact h u hu y (by simp[hy])
def Q4:∀{ds l:List ao} {x:ao},x∈ds.foldl eF l↔x∈l\/x∈ds
 |[],l,x=>by simp
 |d::r,l,x=>by
  rw[List.foldl_cons,Q4,zj,List.mem_cons];constructor
  .rintro((h1|h1)|h1)<;>simp[h1]
  rintro(h1|h1|h1)<;>simp[h1]
def aaj {α:Type} [Inhabited α] (l:List α) (n k:Nat):ab (l.drop n) k=ab l (n+k):=by
 unfold ab;simp[List.getD_eq_getElem?_getD,List.getElem?_drop]
def Q5 (l:List Call) (i:Nat) (x:Int):j5 l i x=dm (λy:Int=>y==x) ((l.map Call.aq).drop (i+1)):=by
 unfold j5 dm;rw[<-List.map_drop,List.findIdx?_map];rfl
def aak {l:List Call} {i:Nat} {p:Call} (hi:i<l.length) (hp:p.aq=(ab l i).aq) (j:Nat) (x:Int):j5 (l.set i p) j x=j5 l j x:=by
 rw[Q5,Q5,List.map_set];have e:p.aq=ab (l.map Call.aq) i:=by rw[hp];simp[ab,hi]
 rw[e,Yi (by simpa using hi)]
def aal {l:List Call} {i:Nat} {x:Int} (h:j5 l i x<0) {j:Nat} (jA:i<j) (hj:j<l.length):(ab l j).aq≠x:=by
 unfold j5 at h;have:=Bb h (j-(i+1)) (by rw[List.length_drop];omega);rw[aaj,show i+1+(j-(i+1))=j by omega] at this;simpa[yU] using this
def aam (l:List aE) (h:l.length<=1048576) (hd:∀y∈l,y.aR.length<=1048576):
 iA prog 135 [bQ l] 62 7 (l.map aE.cells):=by
 refine iA.intro 21 func135 rfl ntmps135 rfl aG (λW I a U=>?_);have hle:=U.dE (t:=0) rfl;refine ax λI a w U=>?_;refine U.l0 λb5 I a w U=>?_;refine aB λI a w U=>?_;refine St.lo (σ:=Nat×Value) (run 2 3 (run 14 6 [])) ⟨λ⟨k,v⟩=>[(4,AV.int k),(3,AV.val v)],λ⟨k,v⟩=>[Own.row v 62 7 ((l.take k).map aE.cells)],λ⟨k,v⟩=>k<=l.length⟩ (λ⟨k,v⟩=>l.length-k) (0,.slice (some ⟨b5,0,none⟩) 0 0) U ?aL ?bG;case aL=>exact Nat.zero_le _
 rintro⟨k,v⟩ I a w al U;have hk:k<=l.length:=al;dsimp only at U;refine aY λI a w U=>?_;refine cz (λae=>?_) λae=>?_
 .refine bO λI a w U=>?_;refine U.o (.c1 (lN (ab l k) (hd _ (bB ae)))) λU=>?_;refine U.o (.li [(ab l k).cells] ju (.u .nil)) λU=>?_;refine U.ap 0 λlP a w U=>?_;rw[bV,<-ez ae] at U;refine aY λI a w U=>?_;exact U.ag (k+1,lP) (ae)
 refine zt ?_;refine aB λI a w U=>?_;exact U.qx (r:=2) 0 rfl rfl rfl (by rw[List.take_of_length_le om])
def IE {l:List aE} (h:bY l=true):qC l:=⟨by have:=gz h;omega,λu hu=>eL (jv (gy h u hu)).2.2⟩
def Q6 {l:List aE} (h:bY l=true) (v:aE):bY (if gH l v then eE l v else l)=true:=by
 split
 .rename_i hc;unfold gH at hc;simp only[Bool.and_eq_true,decide_eq_true_eq] at hc;exact BD h hc.1.1 hc.1.2 hc.2
 exact h
def aan {l:List aE} {v:aE} (h:bY l=true) (hv:si v):qC (l++[v]):=by
 have:=IE h;refine⟨by have:=gz h;simp;omega,λu hu=>?_⟩;rcases List.mem_append.1 hu with hu|hu
 .exact this.2 u hu
 obtain rfl:=List.mem_singleton.1 hu;exact hv
def eP {l:List Int} {i:Nat} (h:∀x∈l,lL x):lL (ab l i):=by
 by_cases hi:i<l.length
 .exact h _ (bB hi)
 unfold ab;rw[List.getD_eq_getElem?_getD,List.getElem?_eq_none om];exact⟨by decide,by decide⟩
end Go.Proofs.YtdanidpleofjgaaGreat
