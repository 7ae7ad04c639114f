/- Part 11: contracts of functions, plain facts. -/
import Derived.Test.YtldbakcpcfdlaaaGreatP10
set_option linter.all false
set_option maxRecDepth 100000
set_option maxHeartbeats 4000000
namespace Go.Proofs.YtldbakcpcfdlaaaGreat
open Go Go.RowKit Tryz
attribute [local irreducible] wpList Code.wp Ok
def acx (l:List (de)) (p:(de)->Bool) (fv:AV) (hf:∀x:de,x∈l->lh prog fv [x.av] (AV.bool (p x))):
 Fn prog 129 [tE l,fv] (AV.int (df p l)):=by
 refine Fn.go 19 func129 ntmps129 (λW I a U=>?_);have hle:=U.eE (t:=0) rfl;refine aX λI a w U=>?_;refine St.lo (σ:=Nat) (run 2 4 (run 11 8 [])) ⟨λk=>[(8,AV.int k)],λk=>[],λk=>k<=l.length/\∀i,i<k->p (ab l i)=false⟩ (λk=>l.length-k) 0 U ?aI ?bF;case aI=>exact⟨Nat.zero_le _,λi hi=>by omega⟩
 rintro k I a w ao U;obtain⟨hk,aM⟩:=ao;refine aB λI a w U=>?_;refine cz (λae=>?_) λae=>?_
 .refine g9 λI a w U=>?_;refine U.o (qp (hf _ (bh ae)) .tt (ax .tt aH)) λU=>?_;refine zt ?_;refine U.cd (λah=>?_) λah=>?_
  .refine c8 ?_;exact gx (nB ae aM ah).symm
  refine aF λI a w U=>?_;exact U.ag (k+1) (⟨ae,λi h1=>by rcases Nat.lt_succ_iff_lt_or_eq.1 h1 with h|h;exact aM i h;rw[h];exact ah⟩)
 refine zt ?_;refine bf ?_;exact gx (mS om aM).symm
def acy (l:List (de)) (p:(de)->Bool) (fv:AV) (hf:∀x:de,x∈l->lh prog fv [x.av] (AV.bool (p x))):
 Fn prog 57 [tE l,fv] (AV.bool (hasB p l)):=by
 refine Fn.go 9 func57 ntmps57 (λW I a U=>?_);refine bk λI a w U=>?_;refine U.o (.cl (acx _ _ _ hf)) λU=>?_;refine c8 ?_;rfl
def iX (a b:List aw):List aw:=b.foldl gI a
def qE (key:Int) (d:aw):Bool:=d.key==key
def bI (l:List aw) (key:Int):cE:=match l.find? (qE key) with
 |some d=>d.ar
 |none=>⟨0,0⟩
def FU {a b:cE} (h:bQ a b=false) (h':bQ b a=false):a=b:=by
 obtain⟨t,s⟩:=a;obtain⟨t',s'⟩:=b;simp[bQ] at h h';simp;omega
def CU {a b:cE} (h:bQ a b=true):bQ b a=false:=by
 obtain⟨t,s⟩:=a;obtain⟨t',s'⟩:=b;simp[bQ] at h⊢;omega
def RZ (e d:aw) (h:e.key=d.key):(if bQ d.ar e.ar then e else d)=(if bQ e.ar d.ar then d else e):=by
 cases h1:bQ d.ar e.ar
 .cases h2:bQ e.ar d.ar
  .have:=FU h1 h2;obtain⟨k,s⟩:=e;obtain⟨k',s'⟩:=d;simp at this h⊢;exact⟨h.symm,this⟩
  simp
 rw[CU h1];simp
def R0:∀{l:List aw} {last:Int} {d:aw},ez last l=true->aJ d.key (last+1) 5=true->dB d.ar=true->ez last (gI l d)=true
 |[],last,d,_,h,U=>by simp[gI,ez,h,U]
 |e::r,last,d,hl,h,U=>by
  simp only[ez,Bool.and_eq_true] at hl;obtain⟨⟨h1,h2⟩,h3⟩:=hl;unfold gI;split
  .rename_i hk;split
   .simp only[ez,Bool.and_eq_true];exact⟨⟨h,U⟩,hk▸h3⟩
   simp only[ez,Bool.and_eq_true];exact⟨⟨h1,h2⟩,h3⟩
  rename_i hk;split
  .rename_i bz;simp only[ez,Bool.and_eq_true];refine⟨⟨h,U⟩,⟨?_,h2⟩,h3⟩;simp[aJ] at h1⊢;omega
  rename_i bz;simp only[ez,Bool.and_eq_true];refine⟨⟨h1,h2⟩,R0 h3 ?_ U⟩;simp[aJ] at h⊢;omega
def R1 {a b:List aw} {k:Nat} (h:k<b.length):iX a (b.take (k+1))=gI (iX a (b.take k)) (ab b k):=by
 unfold iX;rw[fe h,List.foldl_append];rfl
def R2 {l:List aw} {key:Int} {k:Nat} (hk:k<l.length) (h:∀i,i<k->qE key (ab l i)=false) (hp:qE key (ab l k)=true):bI l key=(ab l k).ar:=by
 have:l.find? (qE key)=some (ab l k):=by
  rw[List.find?_eq_some_iff_getElem];refine⟨hp,k,hk,by simp[ab,hk],λj hj=>?_⟩;have mo:j<l.length:=by omega
  have:=h j hj;simpa[ab,mo] using this
 unfold bI;rw[this]
def R3 {l:List aw} {key:Int} {k:Nat} (hk:l.length<=k) (h:∀i,i<k->qE key (ab l i)=false):bI l key=⟨0,0⟩:=by
 have:l.find? (qE key)=none:=by
  rw[List.find?_eq_none];intro x hx;obtain⟨i,hi,rfl⟩:=fS hx;rw[h i om];simp
 unfold bI;rw[this]
def pO {s:cE} (h:dB s=true):1<=s.time:=by simp[dB,aJ] at h;omega
def gm:cE:=⟨0,0⟩
def R4 {s:cE} (h:1<=s.time):bQ gm s=true:=by
 obtain⟨t,u⟩:=s;have h:(1:Int)<=t:=h;have e:decide ((0:Int)<t)=true:=decide_eq_true om;show(decide ((0:Int)<t)||_)=true;rw[e];rfl
def Kp {s:cE} (h:1<=s.time):bQ s gm=false:=by
 obtain⟨t,u⟩:=s;have h:(1:Int)<=t:=h;show(decide (t<(0:Int))||((t==(0:Int))&&decide (u<(0:Int))))=false;have e:decide (t<(0:Int))=false:=decide_eq_false om;have e2:(t==(0:Int))=false:=by simp;omega
 rw[e,e2];rfl
def Ay (c:Call):Bool:=!(((c.kind==1)&&decide (0<(c.au.length:Int)+c.aL.length))||((c.kind==2)&&(decide (0<c.val)||!dw c.ar))||!mq c.ar||decide ((c.keys.length:Int)<c.au.length))
def FV (c:Call):Bool:=!(decide (0<(c.aL.length:Int))&&decide ((c.au.length:Int)<c.keys.length))
def FW (c:Call) (time:Int):Bool:=if c.end_=0 then dw c.ar else !c.over&&aJ c.end_ (c.bH+1) time&&((c.aL.length:Int)==0)&&(((c.kind==1)&&dB c.ar)||((c.kind==2)&&((c.au.length:Int)==c.keys.length)))
def R5 (n m:Nat):((n:Int)==m)=decide (n=m):=by
 rw[Bool.eq_iff_iff];simp;omega
def acz (n:Nat):((n:Int)==0)=decide (n=0):=by
 rw[Bool.eq_iff_iff];simp
def acA {n m:Nat} (h:n<=m):decide ((n:Int)<m)=!decide (n=m):=by
 rw[Bool.eq_iff_iff];simp;omega
def ai.Fit (w:ai):Prop:=(∀m∈w.al,gV m.aT/\gV m.to)/\∀d∈w.calls,gV d.aj
def dQ (a b:cE):cE:=if bQ a b then b else a
def CV (a b x:cE):bQ x (dQ a b)=(bQ x a||bQ x b):=by
 obtain⟨t,s⟩:=a;obtain⟨t',s'⟩:=b;obtain⟨t2,s2⟩:=x;unfold dQ;rw[Bool.eq_iff_iff];by_cases h:bQ ⟨t,s⟩ ⟨t',s'⟩=true
 .rw[if_pos h];simp[bQ] at h⊢;omega
 rw[if_neg h];simp[bQ] at h⊢;omega
def Kq {a b:cE} (h:∀x,bQ x a=bQ x b):a=b:=by
 have h1:=h a;have h2:=h b;have e:∀s:cE,bQ s s=false:=λs=>by simp[bQ]
 rw[e] at h1 h2;exact FU h1.symm h2
def Kr (a b d:cE):dQ (dQ a b) d=dQ a (dQ b d):=Kq λx=>by simp only[CV,Bool.or_assoc]
def acB (a b:cE):dQ a b=dQ b a:=Kq λx=>by simp only[CV];rw[Bool.or_comm]
def mD (e:aw) (r:List aw) (key:Int):bI (e::r) key=if e.key=key then e.ar else bI r key:=by
 unfold bI;rw[List.find?_cons];by_cases h:e.key=key
 .rw[if_pos h,show qE key e=true by simp[qE,h]]
 rw[if_neg h,show qE key e=false by simp[qE,h]]
def Az:∀{l:List aw} {last key:Int},ez last l=true->key<=last->bI l key=⟨0,0⟩
 |[],_,_,_,_=>rfl
 |e::r,last,key,h,hk=>by
  have hh:=h;simp only[ez,Bool.and_eq_true,aJ,decide_eq_true_eq] at h;rw[mD,if_neg om];exact Az h.2 om
def pP {s:cE} (h:s=gm\/dB s=true):dQ gm s=s:=by
 unfold dQ;rcases h with rfl|h
 .simp
 rw[if_pos (R4 (pO h))]
def CW {s:cE} (h:s=gm\/dB s=true):dQ s gm=s:=by rw[acB,pP h]
def tZ:∀{l:List aw} {last:Int},ez last l=true->∀key,bI l key=gm\/dB (bI l key)=true
 |[],_,_,key=>Or.inl rfl
 |e::r,last,h,key=>by
  simp only[ez,Bool.and_eq_true] at h;rw[mD];split
  .exact Or.inr h.1.2
  exact tZ h.2 key
def CX:∀{l:List aw} {last:Int} {d:aw} (key:Int),ez last l=true->dB d.ar=true->bI (gI l d) key=if d.key=key then dQ (bI l key) d.ar else bI l key
 |[],last,d,key,_,U=>by
  unfold gI;rw[mD];split
  .show d.ar=dQ gm d.ar;rw[pP (Or.inr U)]
  rfl
 |e::r,last,d,key,h,U=>by
  have h':=h;simp only[ez,Bool.and_eq_true] at h;unfold gI;split
  .rename_i hk;rw[mD,mD];have e1:(if bQ e.ar d.ar=true then d else e).key=e.key:=by split<;>simp[hk]
   rw[e1,hk];split
   .unfold dQ;split<;>rfl
   rfl
  rename_i hk;split
  .rename_i bz;rw[mD];split
   .rename_i gH;have:bI (e::r) key=gm:=by
     have hd:ez d.key (e::r)=true:=by
      simp only[ez,Bool.and_eq_true];refine⟨⟨?_,h.1.2⟩,h.2⟩;have:=h.1.1;simp[aJ] at this⊢;omega
     exact Az hd om
    rw[this,pP (Or.inr U)]
   rfl
  rename_i bz;rw[mD,mD,CX key h.2 U];by_cases lO:e.key=key
  .rw[if_pos lO,if_pos lO,if_neg om]
  rw[if_neg lO,if_neg lO]
def R6:∀{a b:List aw} {last:Int},ez last a=true->ez last b=true->(∀key,bI a key=bI b key)->a=b
 |[],[],_,_,_,_=>rfl
 |[],e::r,_,_,h,he=>by
  have:=he e.key;rw[mD,if_pos rfl] at this;simp only[ez,Bool.and_eq_true] at h;have h1:=pO h.1.2;rw[<-this] at h1;simp[bI] at h1
 |e::r,[],_,h,_,he=>by
  have:=he e.key;rw[mD,if_pos rfl] at this;simp only[ez,Bool.and_eq_true] at h;have h1:=pO h.1.2;rw[this] at h1;simp[bI] at h1
 |e::r,e'::r',last,h,h',he=>by
  have g:=h;have g':=h';simp only[ez,Bool.and_eq_true] at h h';have aW:∀{e e':aw} {r r':List aw},dB e.ar=true->ez e'.key r'=true->(∀key,bI (e::r) key=bI (e'::r') key)->¬e.key<e'.key:=λ{e e' r r'} U hr he bz=>by
   have:=he e.key;rw[mD,if_pos rfl,mD,if_neg om,Az hr om] at this;have h1:=pO U;rw[this] at h1;simp at h1
  have hk:e.key=e'.key:=by
   have h1:=aW h.1.2 h'.2 he;have h2:=aW h'.1.2 h.2 λkey=>(he key).symm;omega
  have bj:e.ar=e'.ar:=by
   have:=he e.key;rwa[mD,if_pos rfl,mD,if_pos hk.symm] at this
  have hr:r=r':=by
   rw[<-hk] at h';refine R6 h.2 h'.2 λkey=>?_;have:=he key;rw[mD,mD,<-hk] at this;by_cases yy:e.key=key
   .rw[Az h.2 om,Az h'.2 om]
   rwa[if_neg yy,if_neg yy] at this
  obtain⟨k1,s1⟩:=e;obtain⟨k2,s2⟩:=e';simp at hk bj;rw[hk,bj,hr]
def ua (s:cE):Prop:=s=gm\/dB s=true
def R7 {a b:cE} (ha:ua a) (hb:ua b):ua (dQ a b):=by unfold dQ;split<;>assumption
def kT (out:List aw) (a:Answer):List aw:=iX out a.aY.aQ
def fT (c:Call):List aw:=c.au.foldl kT []
def AA (c:Call):List aw:=c.au.foldl kT c.ctx
def oc (out:List aw) (a:Answer):List aw:=if a.yes then gI (iX out a.aY.aQ) a.aY.aU else out
def gJ (c:Call):List aw:=if c.end_=0 then c.ctx else if c.kind=1 then gI c.ctx ⟨ab c.keys 0,c.ar⟩ else c.au.foldl oc c.ctx
def CY (c:Call) (a:Answer):Bool:=bQ a.aY.ar (bI (fT c) a.key)||bQ a.aY.ar (bI c.ctx a.key)
def Ks (c:Call):Bool:=cI c.au.length λi=>!CY c (ab c.au i)
def kx:List Answer->Int->cE
 |[],_=>gm
 |a::r,key=>dQ (bI a.aY.aQ key) (kx r key)
def vx:List Answer->Int->cE
 |[],_=>gm
 |a::r,key=>dQ (if a.yes=true/\a.key=key then a.aY.ar else gm) (vx r key)
def sw (a b:List aw):Bool:=decide (a=b)
def nD (s:Server) (slot:Int):Bool:=s.up&&aJ slot 0 2&&((ab s.aD slot.toNat).cm==1)&&decide ((ab s.aD slot.toNat).bw<9999)
def mE (s:Server):Server:={s with up:=false,ba:=[]}
def l8 (s:Server):Server:={s with up:=true}
def oM:Call:=⟨0,0,0,[],0,[],0,0,false,⟨0,0⟩,[],[]⟩
def oN (vy:List aw) (a:Answer):List aw:=if bQ a.aY.ar (bI vy a.key) then[⟨a.key,bI vy a.key⟩] else[]
def ky (q:Call):List aw:=(q.au.map (oN (fT q))).flatten
def sB (calls:List Call) (aj:Int):Int:=calls.foldl (λn q=>if q.aj=aj then q.num else n) 0
def R8 (l:List aw) (key:Int):
 Fn prog 189 [bE l,AV.int key] ((bI l key).av):=by
 refine Fn.go 21 func189 ntmps189 (λW I a U=>?_);have hle:=U.eE (t:=0) rfl;refine sr<|U.alloc rfl mQ kv λb4 I a w U=>?_;refine aR λI a w U=>?_;refine St.lo (σ:=Nat) (6::(run 11 9 [])) ⟨λk=>[(9,AV.int k)],λk=>[Own.box b4 42 [AV.val (.int .i64 0),AV.val (.int .i64 0)]],λk=>k<=l.length/\∀i,i<k->qE key (ab l i)=false⟩ (λk=>l.length-k) 0 U ?aI ?bF;case aI=>exact⟨Nat.zero_le _,λi hi=>by omega⟩
 rintro k I a w ao U;obtain⟨hk,aM⟩:=ao;refine aB λI a w U=>?_;refine cz (λae=>?_) λae=>?_
 .refine aG λI a w U=>?_;refine U.alloc rfl cW gX λb6 I a w U=>?_;refine aB λI a w U=>?_;obtain⟨I,U⟩:=U.fb 1 6;refine aX λI a w U=>?_;refine U.cd (λah=>?_) λah=>?_
  .refine aR λI a w U=>?_;refine U.ret rfl (.cons (.sx 0) aV.nil) ?_;exact(by rw[R2 ae aM ah];rfl)
  refine aF λI a w U=>?_;have U:=U.drop 1;exact U.ag (k+1) (⟨ae,λi h1=>by rcases Nat.lt_succ_iff_lt_or_eq.1 h1 with h|h;exact aM i h;rw[h];exact ah⟩)
 refine zt ?_;refine U.o (.bd kv aZ.nil) λU=>?_;refine aB λI a w U=>?_;refine U.ret rfl (.cons (.sx 0) aV.nil) ?_;exact(by rw[R3 om aM];rfl)
def acC (l:List aw) (key:Int) (hl:bT l=true):
 Fn prog 369 [bE l,AV.int key] ((bI l key).av):=by
 refine Fn.go 29 func369 ntmps369 (λW I a U=>?_);have hle:=U.eE (t:=0) rfl;refine sr<|U.alloc rfl mQ kv λb4 I a w U=>?_;refine bD λI a w U=>?_;refine U.o (.cl (tT ..)) λU=>?_;refine aB λI a w U=>?_;refine U.cd (λae=>?_) λae=>?_
 .exfalso;rw[hl] at ae;cases ae;skip
 refine aB λI a w U=>?_;refine St.lo (σ:=Nat) (5::(run 18 10 [])) ⟨λk=>[(5,AV.int k)],λk=>[Own.box b4 42 [AV.val (.int .i64 0),AV.val (.int .i64 0)]],λk=>k<=l.length/\∀i,i<k->qE key (ab l i)=false⟩ (λk=>l.length-k) 0 U ?aI ?bF;case aI=>exact⟨Nat.zero_le _,λi hi=>by omega⟩
 rintro k I a w ao U;obtain⟨hk,aM⟩:=ao;refine aX λI a w U=>?_;refine cz (λah=>?_) λah=>?_
 .refine jW λI a w U=>?_;refine U.cd (λaq=>?_) λaq=>?_
  .refine iM λI a w U=>?_;refine U.ret rfl (.cons (.sx 0) aV.nil) ?_;exact(by rw[R2 ah aM aq];rfl)
  refine aR λI a w U=>?_;exact U.ag (k+1) (⟨ah,λi h1=>by rcases Nat.lt_succ_iff_lt_or_eq.1 h1 with h|h;exact aM i h;rw[h];exact aq⟩)
 refine zt ?_;refine U.o (.bd kv aZ.nil) λU=>?_;refine aB λI a w U=>?_;refine U.ret rfl (.cons (.sx 0) aV.nil) ?_;exact(by rw[R3 om aM];rfl)
def FX (s:cE):([s.time,s.site]==[0,0])=dw s:=by
 rw[Bool.eq_iff_iff];simp[dw]
def R9 (q:Call):(decide (0<(q.aL.length:Int))&&decide ((q.au.length:Int)<q.keys.length))=!FV q:=by simp[FV]
def acD {n:Nat} (h:(20:Int)<n):decide (n<=20)=false:=by simp;omega
def acE {x y:List aw} (h:(x.length:Int)≠y.length):sw x y=false:=by
 unfold sw;simp;rintro rfl;exact h rfl
def acF {x y:List aw} {k:Nat} (h:decide (ab x k=ab y k)=false):sw x y=false:=by
 unfold sw;simp at h⊢;rintro rfl;exact h rfl
def acG {s:Server} {slot:Int} {y:de} {key:Int} (h:cV key=slot) (h0:0<=slot) (h3:slot<s.aD.length):cP {s with aD:=s.aD.set slot.toNat y} key=y.cm:=by
 unfold cP ab;simp only[List.getD_eq_getElem?_getD,h];rw[List.getElem?_set_self om];rfl
def Sa {s:Server} (h:bJ s):bJ (l8 s):=⟨h.site,h.aD,h.an,h.waits,h.aE,h.ba,λe=>(by cases e),h.aN,h.here,h.oK,h.oL,h.apart,h.lN⟩
def Sb {s:Server} (h:bJ s):bJ (mE s):=⟨h.site,h.aD,h.an,h.waits,h.aE,rfl,λ_=>rfl,h.aN,h.here,h.oK,h.oL,h.apart,h.lN⟩
def yz {s:Server} {slot:Int} (h:nD s slot=true):s.up=true/\0<=slot/\slot<=2/\(ab s.aD slot.toNat).cm=1/\(ab s.aD slot.toNat).bw<9999:=by
 unfold nD aJ at h;simp only[Bool.and_eq_true,decide_eq_true_eq] at h;exact⟨h.1.1.1,h.1.1.2.1,h.1.1.2.2,by simpa using h.1.2,h.2⟩
def Kt {q:Call} {d:aw} (h:d∈ky q):∃a∈q.au,d=⟨a.key,bI (fT q) a.key⟩/\bQ a.aY.ar d.ar=true:=by
 unfold ky at h;obtain⟨ds,h1,h2⟩:=List.mem_flatten.1 h;obtain⟨a,ha,rfl⟩:=List.mem_map.1 h1;unfold oN at h2;split at h2
 .rename_i hl;obtain rfl:d=_:=by simpa using h2
  exact⟨a,ha,rfl,hl⟩
 simp at h2
def Sc {s:cE} (h:dB s=true):dw s=false:=by
 have:=pO h;unfold dw;rw[Bool.and_eq_false_iff];left;simp;omega
def acH (s:Server) (d:aw):
 Fn prog 348 [s.av,d.av] (AV.bool (iq s d)):=by
 refine Fn.go 9 func348 ntmps348 (λW I a U=>?_);refine bY λI a w U=>?_;refine U.o (nu (ax .tt aH)) λU=>?_;refine U.o (.cl (J9 s.waits (sk d) _ (λv _=>Fn.val (RV v d)))) λU=>?_;refine bf ?_;exact bB (by unfold iq;rw[<-ym];simp)
def AB (s:Server) (h:fK s):
 Fn prog 337 [s.av] ((ef s).av):=by
 refine Fn.go 91 func337 ntmps337 (λW I a U=>?_);refine sr<|U.box rfl .tt λb1 I a w U=>U.alloc rfl cA dS λb2 I a w U=>?_;refine aB λI a w U=>?_;refine St.lo (σ:=Bool×Server) (run 5 3 (run 55 10 [])) ⟨λ⟨g,u⟩=>[(3,AV.bool g)],λ⟨g,u⟩=>[Own.box b1 95 u.cells,Own.box b2 95 [AV.val (.int .i64 0),AV.val (.bool false),AV.rows 2 [],AV.rows 7 [],AV.rows 7 [],AV.rows 3 [],AV.rows 3 []]],λ⟨g,u⟩=>fK u/\ir u=ir s/\(g=false->dI u<0)/\u.ba=s.ba⟩ (λ⟨g,u⟩=>2*u.waits.length+g.toNat) (true,s) U ?aI ?bF;case aI=>exact⟨h,rfl,(λe=>by cases e),rfl⟩
 rintro⟨g,u⟩ I a w ao U;obtain⟨hu,fL,acI,CS⟩:=ao;have lP:=ga hu.waits;have mL:=hu.ba;dsimp only at U;refine aB λI a w U=>?_;refine U.cd (λae=>?_) λae=>?_
 .refine aF λI a w U=>?_;refine St.lo (σ:=Nat×Bool×Server) (run 5 3 (run 54 11 [])) ⟨λ⟨i,g2,u2⟩=>[(4,AV.int i),(3,AV.bool g2)],λ⟨i,g2,u2⟩=>[Own.box b1 95 u2.cells,Own.box b2 95 [AV.val (.int .i64 0),AV.val (.bool false),AV.rows 2 [],AV.rows 7 [],AV.rows 7 [],AV.rows 3 [],AV.rows 3 []]],λ⟨i,g2,u2⟩=>(g2=false->u=u2/\i<=u.waits.length/\(u.an.length<80->∀j,j<i->iC u (ab u.waits j)=false))/\(g2=true->0<=dI u/\u2=mT u (dI u).toNat)⟩ (λ⟨i,g2,u2⟩=>if g2 then 0 else u.waits.length-i+1) (0,false,u) U ?eo ?jK;case eo=>exact⟨λ_=>⟨rfl,Nat.zero_le _,λ_ j hj=>by omega⟩,λe=>by cases e⟩
  rintro⟨i,g2,u2⟩ I a w ao U;obtain⟨hf,ht⟩:=ao;dsimp only at U;refine oE λI a w U=>?_;refine cz (λah=>?_) λah=>?_
  .obtain⟨hi,qF⟩:=ah;obtain⟨rfl,lI,kS⟩:=hf qF;subst qF;refine bk λI a w U=>?_;refine U.o ((by first|exact ff di bL .tt .tt (λ_=>by exact hi)|exact iT di bL .tt .tt (λ_=>by exact hi)|exact je di bL .tt .tt (λ_=>by exact hi))) λU=>?_;refine U.o .la λU=>?_;refine U.alloc rfl bL ee λb5 I a w U=>?_;refine aB λI a w U=>?_;obtain⟨I,U⟩:=U.fb 2 5;refine U.dk ?_;refine eb ?_;refine .o (.c1 (wT _)) ?_;refine .o ((by first|exact ff gQ fh .tt .tt (λ_=>by have:=sj (si (wU hu.waits hi));have:=hu.aD;omega)|exact iT gQ fh .tt .tt (λ_=>by have:=sj (si (wU hu.waits hi));have:=hu.aD;omega)|exact je gQ fh .tt .tt (λ_=>by have:=sj (si (wU hu.waits hi));have:=hu.aD;omega))) ?_;refine iA ?_;refine .q .F (.cl (acb u (ab u.waits i) hu.an)) ?_;refine cG ?_;refine .nil ?_;intro I a w U;refine bm ?_;refine U.cd (λaq=>?_) λaq=>?_
   .rw[RW] at aq;replace aq:=nt aq;refine zt ?_;refine aR λI a w U=>?_;have U:=U.drop 2;exact U.ag (i+1,false,u) (⟨λ_=>⟨rfl,hi,λqD j hj=>by rcases Nat.lt_succ_iff_lt_or_eq.1 hj with h|h;exact kS qD j h;rw[h];exact aq⟩,λe=>by cases e⟩) (hμ:=by simp;try omega)
   rw[RW] at aq;replace aq:=nf aq;refine bk λI a w U=>?_;refine U.o (.cl (FN u.an (ab u.waits i) hu.an)) λU=>?_;refine iM λI a w U=>?_;refine U.cd (λaK=>?_) λaK=>?_
   .refine aR λI a w U=>?_;have U:=U.jj;refine U.gG (rp 2 (([0],none)::rp 2 (([3],some (3,[57]))::([],none)::([0],none)::rp 3 [([3],some (3,[])),([],none),([0],some (0,[]))]))) aO aO rfl ?_;refine .o (wH di bL) ?_;refine bG ?_;refine .r [0] (.lb 0) ?_;refine bG ?_;refine .o (B5 di bL .r .tt (λ_=>by simp;omega)) ?_;refine bc.Cn 3 rfl rfl di bL rfl .tt .r (by have:=ga hu.waits;simp;omega) ?_;refine bG ?_;refine .r [0] (.lb 0) ?_;refine cG ?_;refine .o (E0 di bL .r .tt (λ_=>by simp;omega)) ?_;refine bc.Fe 3 rfl rfl di bL rfl .r (by have:=ga hu.waits;simp;omega) ?_;refine bG ?_;refine bc.ji (x:=AV.any) 0 (λF W0 I0 I γ a w Q U kk=>U.s1 0 λU=>kk _ _ _ U) ?_;refine .nil ?_;intro I a w U;rw[<-List.map_take,<-List.map_drop,<-List.map_append,if_pos aK,show((i:Int)+1).toNat=i+1 by omega,Int.toNat_natCast] at U;change St _ _ [Own.box b1 95 (mT u i).cells,Own.box b2 95 [AV.val (.int .i64 0),AV.val (.bool false),AV.rows 2 [],AV.rows 7 [],AV.rows 7 [],AV.rows 3 [],AV.rows 3 []],Own.gone,Own.gone] _ _ _ at U;refine aX λI a w U=>?_;have U:=U.drop 2;exact U.ag (i+1,true,mT u i) (⟨(λe=>by cases e),λ_=>by have e:=ace (wY aK).2.2 hi (kS (wY aK).2.2) aq;rw[e];exact⟨by omega,by simp⟩⟩) (hμ:=by simp;try omega)
   refine aR λI a w U=>?_;have U:=U.drop 2;exact U.ag (i+1,false,u) (⟨λ_=>⟨rfl,hi,λqD=>by have:=acj hu hi aK;omega⟩,λe=>by cases e⟩) (hμ:=by simp;try omega)
  rw[Nat.not_lt] at ah;refine zt ?_;exact U.ag (g2,u2) (ach hu fL CS hf ht ah) (hμ:=by subst ae;exact aci hf ht)
 refine zt ?_;refine U.l0 λb65 I a w U=>?_;refine aF λI a w U=>?_;refine St.lo (σ:=Nat×Value) (run 2 8 (run 22 66 [])) ⟨λ⟨k,v⟩=>[(9,AV.int k),(8,AV.val v)],λ⟨k,v⟩=>[Own.box b1 95 u.cells,Own.box b2 95 [AV.val (.int .i64 0),AV.val (.bool false),AV.rows 2 [],AV.rows 7 [],AV.rows 7 [],AV.rows 3 [],AV.rows 3 []],Own.row v 125 3 (((u.ba.take k).filter (iq u)).map aw.cells)],λ⟨k,v⟩=>k<=u.ba.length⟩ (λ⟨k,v⟩=>u.ba.length-k) (0,.slice (some ⟨b65,0,none⟩) 0 0) U ?iD ?od;case iD=>exact Nat.zero_le _
 rintro⟨k,v⟩ I a w ao U;have hk:k<=u.ba.length:=ao;dsimp only at U;refine cF λI a w U=>?_;refine cz (λaS=>?_) λaS=>?_
 .refine zt ?_;refine U.dk ?_;refine iA ?_;refine .o (.c2 (RP ..))<|.nil ?_;intro I a w U;refine bm ?_;refine cz (λbA=>?_) λbA=>?_
  .refine dZ λI a w U=>?_;refine U.o (.li [(ab u.ba k).cells] jk (.u .nil)) λU=>?_;refine U.append 2 rfl dX cW rfl .tt .r rfl (by have h1:=tX (iq u) u.ba k;have h2:=hu.ba;simp;omega) λKu a w U=>?_;rw[cJ,<-oI aS bA] at U;refine aX λI a w U=>?_;exact U.ag (k+1,Ku) (aS)
  refine aR λI a w U=>?_;rw[show(u.ba.take k).filter (iq u)=(u.ba.take (k+1)).filter (iq u) from(oJ aS bA).symm] at U;exact U.ag (k+1,v) (aS)
 refine zt ?_;refine U.m λU=>?_;obtain⟨I,U⟩:=U.fr 2 88;refine aX λI a w U=>?_;have e1:ef s=FL u:=by unfold ef;rw[<-fL,RL (acI ae)]
 have e2:u.ba.take k=u.ba:=List.take_of_length_le om;refine U.ret rfl (.cons (.sx 1) aV.nil) ?_;exact(by rw[e1,e2];rfl)
def Sd (s:Server) (m:az):(!cM m.aT||(bM m.aT==bM s.site)||decide (fy s.aE ⟨m.key,m.ar⟩<0)||((ab s.aD (cV m.key).toNat).cm !=1))=
 !(cM m.aT&&(bM m.aT !=bM s.site)&&decide (0<=fy s.aE ⟨m.key,m.ar⟩)&&(cP s m.key==1)):=by
 have e:decide (fy s.aE ⟨m.key,m.ar⟩<0)=!decide (0<=fy s.aE ⟨m.key,m.ar⟩):=by rw[Bool.eq_iff_iff];simp
 rw[e];simp[bne,cP]
def Se (s:Server) (slot:Int):(!s.up||!aJ slot 0 2||((ab s.aD slot.toNat).cm !=1)||decide (9999<=(ab s.aD slot.toNat).bw))=!nD s slot:=by
 have e:decide (9999<=(ab s.aD slot.toNat).bw)=!decide ((ab s.aD slot.toNat).bw<9999):=by rw[Bool.eq_iff_iff];simp
 unfold nD;rw[e];simp[bne]
def Sf {s:Server} {slot:Int} (he:aJ slot 0 2=true->(ab s.aD slot.toNat).bw<=9999):(!s.up||!aJ slot 0 2||((ab s.aD slot.toNat).cm !=1)||((ab s.aD slot.toNat).bw==9999))=!nD s slot:=by
 unfold nD;cases h:aJ slot 0 2
 .simp
 have:=he h;have e:((ab s.aD slot.toNat).bw==9999)=!decide ((ab s.aD slot.toNat).bw<9999):=by rw[Bool.eq_iff_iff];simp;omega
 rw[e];simp[bne]
def oO (q:Call):Nat->List aw
 |0=>q.aL
 |k+1=>oO q k++oN (fT q) (ab q.au k)
def Sg (q:Call):∀k,k<=q.au.length->oO q k=q.aL++((q.au.take k).map (oN (fT q))).flatten
 |0,_=>by simp[oO]
 |k+1,h=>by
  show oO q k++_=_;rw[Sg q k om,fe om,List.map_append,List.flatten_append,List.append_assoc];simp
def Kv {q:Call} {k:Nat} (h:k<q.au.length):oO q (k+1)=oO q k++oN (fT q) (ab q.au k):=rfl
def acK {q:Call} {k:Nat} (h:k<q.au.length) (hl:bQ (ab q.au k).aY.ar (bI (fT q) (ab q.au k).key)=true):oO q k++[⟨(ab q.au k).key,bI (fT q) (ab q.au k).key⟩]=oO q (k+1):=by
 rw[Kv h];unfold oN;rw[if_pos hl]
def acL {q:Call} {k:Nat} (h:k<q.au.length) (hl:¬bQ (ab q.au k).aY.ar (bI (fT q) (ab q.au k).key)=true):oO q k=oO q (k+1):=by
 rw[Kv h];unfold oN;rw[if_neg hl,List.append_nil]
def Sh (q:Call):∀k,k<=q.au.length->(oO q k).length<=q.aL.length+k
 |0,_=>by simp[oO]
 |k+1,h=>by
  have ih:=Sh q k om;rw[Kv om,List.length_append];have:(oN (fT q) (ab q.au k)).length<=1:=by unfold oN;split<;>simp
  omega
def acM {q:Call} {k:Nat} (hk:k<=q.au.length) (h:q.au.length<=k):oO q k=q.aL++ky q:=by rw[Sg q k hk];unfold ky;rw[List.take_of_length_le h]
def acN (v:Value) (l:List (List AV)) (x:List AV) (i:Nat) (hi:i<=l.length) (hl:l.length<=1048576) (fi:∀r∈l,r.length=9) (hx:x.length=9):
 jV prog 353 [AV.val v,AV.int i,AV.rows 9 [x]] [Own.row v 56 9 l] [] (AV.rows 9 (l.take i++x::l.drop i)):=by
 refine jV.intro 95 func353 rfl ntmps353 rfl aO (λW I a U=>?_);obtain⟨q,cap,rfl,nX⟩:=U.Cs 0 rfl;refine bk λI a w U=>?_;refine U.o (Jp gP fg .tt .tt ⟨by omega,by omega⟩ nX) λU=>?_;refine bD λI a w U=>?_;refine U.o (BV gP .tt) λU=>?_;rw[show(([x]:List (List AV)).length:Int)=1 from rfl] at U;refine aR λI a w U=>?_;refine U.cd (λae=>?_) λae=>?_
 .exfalso;simp at ae;skip
 refine iM λI a w U=>?_;refine cz (λah=>?_) λah=>?_
 .refine aG λI a w U=>?_;refine U.append 0 rfl gP fg rfl .tt .tt rfl (by simp only[List.length_singleton];omega) λyp a w U=>?_;obtain⟨I,U⟩:=U.fr 0 25;have U:=U.drop 0;refine aB λI a w U=>?_;refine U.vb rfl (.cons .x .nil) rfl ?_;exact congrArg (AV.rows 9) (by rw[show i=l.length by omega];simp)
 refine bx λI a w U=>?_;refine U.o (Co gP .tt) λU=>?_;refine aB λI a w U=>?_;refine cz (λaq=>?_) λaq=>?_
 .refine zt ?_;have aW:l≠[]:=by intro e;rw[e] at hi ah;simp at hi ah;omega
  obtain⟨b,pw,he,ml,js,n7,U⟩:=U.u9 0 rfl aW;simp only[Value.slice.injEq] at he;obtain⟨rfl,_,rfl⟩:=he;have hA:(l.take i).flatten.length=i*9:=by rw[iz λr hr=>fi r (List.mem_of_mem_take hr),List.length_take,Nat.min_eq_left hi]
  have hB:(l.drop i).flatten.length=(l.length-i)*9:=by rw[iz λr hr=>fi r (List.mem_of_mem_drop hr),List.length_drop]
  rw[show l.flatten=(l.take i).flatten++(l.drop i).flatten by rw[<-List.flatten_append,List.take_append_drop],List.map_append] at U;have iu:([x]:List (List AV)).flatten.length=9:=by simpa using hx
  have hlen:(l.take i++x::l.drop i).length=l.length+1:=by simp;omega
  have oa:∀r∈l.take i++x::l.drop i,r.length=9:=λr hr=>(List.mem_append.1 hr).elim (λh=>fi r (List.mem_of_mem_take h)) λh=>(List.mem_cons.1 h).elim (λe=>e▸hx) λh=>fi r (List.mem_of_mem_drop h);have sq:(l.take i++x::l.drop i).flatten.map some=(l.take i).flatten.map some++([x]:List (List AV)).flatten.map some++(l.drop i).flatten.map some:=by simp
  refine aG λI a w U=>?_;refine U.o (tH (hi:=i) gP fg .tt .tt rfl om om) λU=>?_;refine bY λI a w U=>?_;refine U.Jr (fQ:=l.length+1-i) (xs:=(l.take i).flatten) 0 gP oG fg rfl aP .tt .tt om om rfl (by rw[List.drop_zero,List.append_assoc];exact lJ _ (List.length_map _)) hA om om om rfl λ{gb yq a w} lY qv U=>?_;refine bk λI a w U=>?_;refine U.o (ll (lo:=i) gP fg .tt .tt rfl om om) λU=>?_;refine U.m λU=>?_;refine U.Af 1 gP fg .tt .tt rfl bn (by simp only[List.length_singleton];omega) (by simp only[List.length_singleton,List.length_append,List.length_map,List.length_replicate,hA];omega) rfl λU=>?_;refine zt ?_;refine U.dt 8 ?_;simp only[TD];refine eb ?_;refine .o (ll (lo:=i+1) gP fg .tt .tt om om om) ?_;refine cG ?_;refine .o (ll (lo:=i) gP fg .tt .tt rfl om om) ?_;refine .nil ?_;intro I a w U;refine U.Ag (xs:=(l.drop i).flatten) 1 0 gP fg .tt .tt rfl rfl (by rw[List.append_assoc,yc _ (by simp only[List.length_map,hA];omega)];exact lJ _ (List.length_map _)) (by rw[hB,Nat.min_eq_left om]) (by rw[my (by simp only[List.length_map,List.length_append,List.length_replicate,iu,hA];omega)];simp only[List.length_append,List.length_map,List.length_replicate,hA,hB];omega) rfl λU=>?_;rw[Jy (by simp only[List.length_map,hA];omega) (by simp only[List.length_map,iu];omega) (by simp only[List.length_map,List.length_replicate,iu,hB];omega)] at U;have U:=U.tF (l:=l.take i++x::l.drop i) (cap:=yq) 1 rfl (by simp only[List.length_append,List.length_map,List.length_drop,List.length_replicate,hA,hB,iu];omega) oa om om om (by rw[sq,hlen];exact lJ _ (by simp only[List.length_append,List.length_map,hA,hB,iu];omega));rw[show i+(l.length+1-i)=(l.take i++x::l.drop i).length by omega] at U;obtain⟨I,U⟩:=U.fr 1 9;have U:=U.drop 0;refine aF λI a w U=>?_;exact U.vb rfl (.cons (by first|exact .t rfl|exact .nil rfl) .nil) rfl rfl
 refine zt ?_;have aW:l≠[]:=by intro e;rw[e] at hi ah;simp at hi ah;omega
 obtain⟨b,pw,he,ml,js,n7,U⟩:=U.u9 0 rfl aW;simp only[Value.slice.injEq] at he;obtain⟨rfl,_,rfl⟩:=he;have hA:(l.take i).flatten.length=i*9:=by rw[iz λr hr=>fi r (List.mem_of_mem_take hr),List.length_take,Nat.min_eq_left hi]
 have hB:(l.drop i).flatten.length=(l.length-i)*9:=by rw[iz λr hr=>fi r (List.mem_of_mem_drop hr),List.length_drop]
 rw[show l.flatten=(l.take i).flatten++(l.drop i).flatten by rw[<-List.flatten_append,List.take_append_drop],List.map_append] at U;have iu:([x]:List (List AV)).flatten.length=9:=by simpa using hx
 have hlen:(l.take i++x::l.drop i).length=l.length+1:=by simp;omega
 have oa:∀r∈l.take i++x::l.drop i,r.length=9:=λr hr=>(List.mem_append.1 hr).elim (λh=>fi r (List.mem_of_mem_take h)) λh=>(List.mem_cons.1 h).elim (λe=>e▸hx) λh=>fi r (List.mem_of_mem_drop h);have sq:(l.take i++x::l.drop i).flatten.map some=(l.take i).flatten.map some++([x]:List (List AV)).flatten.map some++(l.drop i).flatten.map some:=by simp
 refine bx λI a w U=>?_;refine U.o (tH (hi:=l.length+1) gP fg .tt .tt om om om) λU=>?_;refine dZ λI a w U=>?_;refine U.o (ll (lo:=i+1) gP fg .tt .tt om om om) λU=>?_;refine U.overlaps (tR:=4) 0 func367 rfl aO aO aO gP fg aP .tt bn .tt rfl rfl λU=>?_;refine aB λI a w U=>?_;refine U.cd (λaK=>?_) λaK=>?_
 .refine wp_seq ?_;refine U.dt 8 ?_;simp only[TD];refine eb ?_;refine .o (ll (lo:=i+1) gP fg .tt .tt om om om) ?_;refine cG ?_;refine .o (ll (lo:=i) gP fg .tt .tt rfl om om) ?_;refine .nil ?_;intro I a w U;refine U.Ag (xs:=(l.drop i).flatten) 0 0 gP fg .tt .tt rfl rfl (by rw[List.append_assoc,yc _ (by simp only[List.length_map,hA];omega)];exact lJ _ (List.length_map _)) (by rw[hB];congr 1;omega) (by simp only[List.length_append,List.length_map,List.length_replicate,hA,hB];omega) rfl λU=>?_;refine aG λI a w U=>?_;refine U.o (ll (lo:=i) gP fg .tt .tt rfl om om) λU=>?_;refine U.m λU=>?_;refine U.Af 0 gP fg .tt .tt rfl bn (by simp only[List.length_singleton];omega) (by rw[my (by simp only[List.length_map,List.length_append,List.length_replicate,hA,hB];omega)];simp only[List.length_singleton,List.length_append,List.length_map,List.length_replicate,hA,hB];omega) rfl λU=>?_;rw[Jw (by simp only[List.length_map,hA];omega) (by simp only[List.length_map,iu];omega) (by simp only[List.length_map,List.length_replicate,iu];omega)] at U;have U:=U.tF (l:=l.take i++x::l.drop i) (cap:=cap) 0 rfl (by simp only[List.length_append,List.length_map,List.length_drop,List.length_replicate,hA,hB,iu];omega) oa om om om (by rw[sq,hlen];exact lJ _ (by simp only[List.length_append,List.length_map,hA,hB,iu];omega));rw[show l.length+1=(l.take i++x::l.drop i).length by omega] at U;obtain⟨I,U⟩:=U.fr 0 0;have U:=U.drop 0;refine aF λI a w U=>?_;exact U.vb rfl (.cons (by first|exact .t rfl|exact .nil rfl) .nil) rfl rfl
 exfalso;simp at aK;skip
def Si {s:Server} {m:az} (h:(m.kind==5&&(cM m.aT&&(bM m.aT !=bM s.site)))=true):m.kind=5/\(cM m.aT&&(bM m.aT !=bM s.site))=true:=by
 rw[Bool.and_eq_true,beq_iff_eq] at h;exact h
def vz (l:List Call) (aj:Int):Nat->Int
 |0=>0
 |k+1=>if(ab l k).aj=aj then(ab l k).num else vz l aj k
def acO {l:List Call} {aj:Int} {k:Nat} (h:(ab l k).aj=aj):(ab l k).num=vz l aj (k+1):=by show _=(if _ then _ else _);rw[if_pos h]
def acP {l:List Call} {aj:Int} {k:Nat} (h:¬(ab l k).aj=aj):vz l aj k=vz l aj (k+1):=by show _=(if _ then _ else _);rw[if_neg h]
def acQ {α:Type} [Inhabited α] {l:List α} {i:Nat}:l.set i (ab l i)=l:=by
 apply List.ext_getElem?;intro j;rw[List.getElem?_set];split
 .rename_i h;subst h;split
  .rename_i h;simp[ab,h]
  rename_i h;simp at h;simp[h]
 rfl
def FY:Nat->List (List aw)
 |0=>[]
 |k+1=>FY k++[[]]
def Sj:∀k,(FY k).length=k
 |0=>rfl
 |k+1=>by show(FY k++[[]]).length=_;rw[List.length_append,Sj k];rfl
def Sk:Ev:=⟨0,0,0,0,0,0,0,0,0,0,0⟩
def wZ (a b:List aw):Prop:=∀key,bQ (bI b key) (bI a key)=false
def acR {i:Nat} (hi:i<4):1-i/2<2:=by omega
def CZ:∀{l:List aw} {key:Int},bI l key=gm\/(⟨key,bI l key⟩:aw)∈l
 |[],_=>.inl rfl
 |d::r,key=>by
  rw[mD];split
  .rename_i e;right;rw[<-e];exact List.mem_cons_self ..
  rcases CZ (l:=r) (key:=key) with h|h
  .exact .inl h
  exact .inr (List.mem_cons_of_mem _ h)
def Sl {v:aA} (h:dN v=true):bQ v.ar gm=false:=Kp (pO (iW h).2.1)
def Kw {l:List Answer} {key:Int}:kx l key=gm\/∃b∈l,bI b.aY.aQ key=kx l key:=by
 induction l with
 |nil=>exact .inl rfl
 |cons b r ih=>
  show dQ (bI b.aY.aQ key) (kx r key)=gm\/∃x∈b::r,_=dQ (bI b.aY.aQ key) (kx r key)
  unfold dQ
  split
  .rcases ih with ih|⟨x,hx,e⟩
   .exact .inl ih
   exact .inr ⟨x,List.mem_cons_of_mem _ hx,e⟩
  exact .inr ⟨b,List.mem_cons_self ..,rfl⟩
def Kx:∀(l:List cE) (t:Int),l.foldl (λt s=>if t<s.time then s.time else t) t=t\/∃s∈l,s.time=l.foldl (λt s=>if t<s.time then s.time else t) t
 |[],t=>.inl rfl
 |s::r,t=>by
  rw[List.foldl_cons];rcases Kx r (if t<s.time then s.time else t) with h|⟨x,hx,h⟩
  .rw[h];split
   .exact .inr ⟨s,by simp,rfl⟩
   exact .inl rfl
  exact .inr ⟨x,by simp[hx],h⟩
def qG (m:az):Bool:=m.kind==1||m.kind==3||m.kind==5||m.kind==7||m.kind==9
def wt (m:az):Nat:=if qG m then 2 else 1
def oe (l:List az):Nat:=(l.map wt).sum
def acS (l m:List az):oe (l++m)=oe l+oe m:=by unfold oe;rw[List.map_append,List.sum_append]
def FZ (x:az) (l:List az):oe (x::l)=wt x+oe l:=rfl
def Ky (l:List az):oe l<=2*l.length:=by
 induction l with
 |nil=>exact Nat.le_refl _
 |cons x r ih=>
  rw[FZ,List.length_cons]
  have:wt x<=2:=by unfold wt;split<;>omega
  omega
def Kz (m:az):1<=wt m:=by unfold wt;split<;>omega
def Sm {s t:Server} (h:s.waits=t.waits) (d:aw):iq s d=iq t d:=by unfold iq;rw[h]
def KA {s:Server} {v:aA}:yo s v=true↔∀d∈v.aQ,eG s d=true:=by
 unfold yo;exact tY (p:=eG s)
def C0 {s t:Server} {v:aA} (h1:cP t v.key=1->cP s v.key=1) (h2:∀d∈v.aQ,eG t d=true->eG s d=true) (h:iC t v=true):iC s v=true:=by
 unfold iC at*;rw[Bool.and_eq_true,beq_iff_eq] at*;exact⟨h1 h.1,KA.2 λd hd=>h2 d hd (KA.1 h.2 d hd)⟩
def qH (p:aA->aA->Bool) (x y:List aA):Bool:=decide (x.length=y.length)&&cI x.length λi=>p (ab x i) (ab y i)
def acT (x y:List aA) (p:aA->aA->Bool) (fv:AV) (hf:∀u v:aA,lh prog fv [u.av,v.av] (AV.bool (p u v))):
 Fn prog 59 [bU x,bU y,fv] (AV.bool (qH p x y)):=by
 refine Fn.go 32 func59 ntmps59 (λW I a U=>?_);have xU:=U.eE (t:=0) rfl;have hly:=U.eE (t:=1) rfl;refine iM λI a w U=>?_;refine cz (λae=>?_) λae=>?_
 .refine bf ?_;exact bB (by unfold qH;rw[show decide (x.length=y.length)=false by simp;omega];rfl)
 refine aR λI a w U=>?_;refine St.lo (σ:=Nat) (run 4 6 (run 15 17 [])) ⟨λk=>[(17,AV.int k)],λk=>[],λk=>k<=x.length/\∀i,i<k->(λi=>p (ab x i) (ab y i)) i=true⟩ (λk=>x.length-k) 0 U ?aI ?bF;case aI=>exact⟨Nat.zero_le _,λi hi=>by omega⟩
 rintro k I a w ao U;obtain⟨mU,aM⟩:=ao;refine aB λI a w U=>?_;refine cz (λah=>?_) λah=>?_
 .refine bk λI a w U=>?_;refine U.alloc rfl bL ee λb8 I a w U=>?_;refine aF λI a w U=>?_;obtain⟨I,U⟩:=U.fb 0 8;refine bx λI a w U=>?_;refine U.alloc rfl bL ee λb9 I a w U=>?_;refine aB λI a w U=>?_;obtain⟨I,U⟩:=U.fb 1 9;refine bk λI a w U=>?_;refine U.o (qp (hf _ _) .tt (ax .tt (ax .tt aH))) λU=>?_;refine aB λI a w U=>?_;refine U.cd (λaq=>?_) λaq=>?_
  .replace aq:=nt aq;refine bf ?_;exact bB (by unfold qH;rw[eI (f:=λi=>p (ab x i) (ab y i)) ah aq];simp)
  replace aq:=nf aq;refine aF λI a w U=>?_;have U:=U.drop 0;exact U.ag (k+1) (⟨by omega,eY aM aq⟩)
 refine zt ?_;refine bf ?_;exact bB (by unfold qH;rw[eX aM om,show decide (x.length=y.length)=true by simp;omega];rfl)
def KB {α β:Type} {f:α->List β} {n:Nat} (h:∀x,(f x).length<=n):∀l:List α,((l.map f).flatten).length<=n*l.length
 |[]=>by simp
 |x::r=>by
  have:=KB h r;have:=h x;rw[List.map_cons,List.flatten_cons,List.length_append,List.length_cons,Nat.mul_succ];omega
def acV {l:List aw} {d:aw} (h:0<=fy l d):(fy l d).toNat<l.length/\ab l (fy l d).toNat=d:=by
 unfold fy df at*;split at h
 .rename_i k hk;obtain⟨h1,h2,_⟩:=List.findIdx?_eq_some_iff_getElem.1 hk;refine⟨by simpa using h1,?_⟩;simp only[Int.toNat_natCast];simpa[ab,h1] using h2
 omega
def F0:∀(l:List cE) (t:Int),t<=l.foldl (λt s=>if t<s.time then s.time else t) t/\∀s∈l,s.time<=l.foldl (λt s=>if t<s.time then s.time else t) t
 |[],t=>⟨Int.le_refl _,by simp⟩
 |s::r,t=>by
  rw[List.foldl_cons];obtain⟨h1,h2⟩:=F0 r (if t<s.time then s.time else t);have h3:t<=(if t<s.time then s.time else t)/\s.time<=(if t<s.time then s.time else t):=by split<;>omega
  refine⟨by omega,λx hx=>?_⟩;rcases List.mem_cons.1 hx with rfl|hx
  .omega
  exact h2 x hx
def acW {σ:Nat} (h:σ<2):(1:Int)-(σ:Int)=((1-σ:Nat):Int):=by omega
structure sC (V:aA->Prop) (a:Answer):Prop where
 top:a.yes=true->V a.aY/\a.aY.key=a.key/\∀u,V u->u.key=a.key->bQ a.aY.ar u.ar=false
 no:a.yes=false->∀u,V u->u.key≠a.key
def oP (e:Ev):Ev:={e with kind:=1}
def lQ:Ev:=⟨0,0,1,0,0,0,2,0,2,4,0⟩
end Go.Proofs.YtldbakcpcfdlaaaGreat
