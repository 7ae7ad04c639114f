/- Part 14: contracts of functions, plain facts. -/
import Derived.Test.YtldbakcpcfdlaaaGreatA10
set_option linter.all false
set_option maxRecDepth 100000
set_option maxHeartbeats 4000000
namespace Go.Proofs.YtldbakcpcfdlaaaGreat
open Go Go.RowKit Tryz
attribute [local irreducible] wpList Code.wp Ok
def Wu {α:Type} (p:α->Bool) (l:List α):di p l<(l.length:Int)\/di p l=-1:=by
 unfold di;split
 .rename_i k h;have:=(List.findIdx?_eq_some_iff_getElem.1 h).1;left;omega
 right;rfl
def Wv (d:an) (v:aD):([v.key,v.ax.time,v.ax.site]==[d.key,d.ax.time,d.ax.site])=lL d v:=by
 obtain⟨k,⟨t,s⟩⟩:=d;obtain⟨vk,⟨vt,vs⟩,_,_,_,_⟩:=v;rw[Bool.eq_iff_iff];simp[lL,aD.bG,Bool.and_eq_true]
def Fs (l:List (aD)) (p:(aD)->Bool) (fv:AV) (hf:∀x:aD,x∈l->jZ prog fv [x.av] (AV.bool (p x))):
 Fn prog 218 [bV l,fv] (AV.int (di p l)):=by
 refine Fn.go 19 func218 ntmps218 (λW I a U=>?_);have hle:=U.eh (t:=0) rfl;refine aV λI a w U=>?_;refine St.lo (σ:=Nat) (run 2 4 (run 11 8 [])) ⟨λk=>[(8,AV.int k)],λk=>[],λk=>k<=l.length/\∀i,i<k->p (ab l i)=false⟩ (λk=>l.length-k) 0 U ?aH ?bx;case aH=>exact⟨Nat.zero_le _,λi hi=>by omega⟩
 rintro k I a w al U;obtain⟨hk,aU⟩:=al;refine ao λI a w U=>?_;refine cz (λae=>?_) λae=>?_
 .refine fm λI a w U=>?_;refine U.o (uW (hf _ (bB ae)) .tt (ai .tt aB)) λU=>?_;refine zt ?_;refine U.cd (λah=>?_) λah=>?_
  .refine dh ?_;exact eW (lK ae aU ah).symm
  refine aq λI a w U=>?_;exact U.ag (k+1) (⟨ae,λi h1=>by rcases Nat.lt_succ_iff_lt_or_eq.1 h1 with h|h;exact aU i h;rw[h];exact ah⟩)
 refine zt ?_;refine bk ?_;exact eW (kR om aU).symm
def MR (l:List (aD)) (p:(aD)->Bool) (fv:AV) (hf:∀x:aD,x∈l->jZ prog fv [x.av] (AV.bool (p x))):
 Fn prog 184 [bV l,fv] (AV.bool (hasB p l)):=by
 refine Fn.go 9 func184 ntmps184 (λW I a U=>?_);refine bc λI a w U=>?_;refine U.o (.cl (Fs _ _ _ hf)) λU=>?_;refine dh ?_;rfl
def MS (s:Server) (i:Nat):(eB s (ab s.ar i).key==0)=!qB s i:=by simp[qB,bne]
def MT (s:Server) (v:aD):((eB s v.key==0)||!(ct v.ax.site !=ct s.site)||decide (0<=placeOf s.ar v.bG))=!qC s v:=by
 have e:decide (0<=placeOf s.ar v.bG)=!decide (placeOf s.ar v.bG<0):=by rw[Bool.eq_iff_iff];simp
 rw[e];simp[qC,bne]
def iZ (a b:List an):List an:=b.foldl fR a
def nx (key:Int) (d:an):Bool:=d.key==key
def cv (l:List an) (key:Int):cA:=match l.find? (nx key) with
 |some d=>d.ax
 |none=>⟨0,0⟩
def MU:∀{l:List an} {last:Int} {d:an},dm last l=true->aQ d.key (last+1) 5=true->c7 d.ax=true->dm last (fR l d)=true
 |[],last,d,_,h,U=>by simp[fR,dm,h,U]
 |e::r,last,d,hl,h,U=>by
  simp only[dm,Bool.and_eq_true] at hl;obtain⟨⟨h1,h2⟩,h3⟩:=hl;unfold fR;split
  .rename_i hk;split
   .simp only[dm,Bool.and_eq_true];exact⟨⟨h,U⟩,hk▸h3⟩
   simp only[dm,Bool.and_eq_true];exact⟨⟨h1,h2⟩,h3⟩
  rename_i hk;split
  .rename_i cj;simp only[dm,Bool.and_eq_true];refine⟨⟨h,U⟩,⟨?_,h2⟩,h3⟩;simp[aQ] at h1⊢;omega
  rename_i cj;simp only[dm,Bool.and_eq_true];refine⟨⟨h1,h2⟩,MU h3 ?_ U⟩;simp[aQ] at h⊢;omega
def wc {l:List an} {d:an} (h:bP l=true) (hd:gU d=true):bP (fR l d)=true:=by
 simp only[gU,Bool.and_eq_true] at hd;exact MU h (by simpa[cY] using hd.1) hd.2
def we {a b:List an} (ha:bP a=true) (hb:∀d∈b,gU d=true):bP (iZ a b)=true:=by
 unfold iZ;induction b generalizing a with
 |nil=>exact ha
 |cons d r ih=>exact ih (wc ha (hb d bt)) (λe he=>hb e (by simp[he]))
def MV {a b:List an} {k:Nat} (h:k<b.length):iZ a (b.take (k+1))=fR (iZ a (b.take k)) (ab b k):=by
 unfold iZ;rw[dO h,List.foldl_append];rfl
def MW {a b:List an} (ha:bP a=true) (hb:bP b=true) (k:Nat):bP (iZ a (b.take k))=true:=
 we ha λd hd=>nV hb (List.mem_of_mem_take hd)
def MX {l:List an} {key:Int} {k:Nat} (hk:k<l.length) (h:∀i,i<k->nx key (ab l i)=false) (hp:nx key (ab l k)=true):cv l key=(ab l k).ax:=by
 have:l.find? (nx key)=some (ab l k):=by
  rw[List.find?_eq_some_iff_getElem];refine⟨hp,k,hk,by simp[ab,hk],λj hj=>?_⟩;have jN:j<l.length:=by omega
  have:=h j hj;simpa[ab,jN] using this
 unfold cv;rw[this]
def MY {l:List an} {key:Int} {k:Nat} (hk:l.length<=k) (h:∀i,i<k->nx key (ab l i)=false):cv l key=⟨0,0⟩:=by
 have:l.find? (nx key)=none:=by
  rw[List.find?_eq_none];intro x hx;obtain⟨i,hi,rfl⟩:=iz hx;rw[h i om];simp
 unfold cv;rw[this]
def MZ {n:Int}:cY n=true↔0<=n/\n<=5:=by simp[cY,aQ]
def M0 (l:List Int) (k:Nat):(!cY (ab l k)||(decide (0<(k:Int))&&decide (ab l k<=ab l ((k:Int)-1).toNat)))=!et cY mw l k:=by
 rw[<-rE];have e:decide (ab l k<=ab l ((k:Int)-1).toNat)=!mw (ab l ((k:Int)-1).toNat) (ab l k):=by rw[Bool.eq_iff_iff];simp[mw]
 rw[e]
def sf (c:Call) (i:Nat):Bool:=decide (0<=cE c (ab c.aL i).key)&&c8 (ab c.az (cE c (ab c.aL i).key).toNat).bF.ax (ab c.aL i).ax
def sg {c:Call} {key:Int} (h:0<=cE c key):(cE c key).toNat<c.az.length:=by
 have:=Wu (qD key) c.az;unfold cE at*;omega
def Bn {f:Answer->Int}:∀{ks:List Int} {l:List Answer},ks.Pairwise (·<·)->(l.map f).Pairwise (·<·)->(∀a∈l,f a∈ks)->l.length<=ks.length
 |[],[],_,_,_=>Nat.le_refl _
 |[],a::l,_,_,h=>by have:=h a bt;simp at this
 |y::ks,[],_,_,_=>by simp
 |y::ks,a::l,hk,hl,h=>by
  rw[List.pairwise_cons] at hk;rw[List.map_cons,List.pairwise_cons] at hl;by_cases M1:f a=y
  .have:l.length<=ks.length:=Bn hk.2 hl.2 λb hb=>by
    have h1:=h b (by simp[hb]);have h2:=hl.1 (f b) (List.mem_map.2 ⟨b,hb,rfl⟩);rcases List.mem_cons.1 h1 with h3|h3
    .omega
    exact h3
   simp;omega
  have Kt:y<f a:=by
   rcases List.mem_cons.1 (h a bt) with h3|h3
   .exact absurd h3 M1
   exact hk.1 _ h3
  have:(a::l).length<=ks.length:=Bn hk.2 (by rw[List.map_cons,List.pairwise_cons];exact hl) λb hb=>by
   have h1:=h b hb;rcases List.mem_cons.1 h1 with h3|h3
   .rcases List.mem_cons.1 hb with rfl|hb
    .exact absurd h3 M1
    have h2:=hl.1 (f b) (List.mem_map.2 ⟨b,hb,rfl⟩);omega
   exact h3
  simp at this⊢;omega
def M2 {α:Type} [Inhabited α] {f:α->Int} {l:List α} (h:∀i,0<i->i<l.length->f (ab l (i-1))<f (ab l i)):(l.map f).Pairwise (·<·):=by
 rw[List.pairwise_iff_getElem];intro i j hi hj jE;simp only[List.length_map] at hi hj;simp only[List.getElem_map];have e:∀k (hk:k<l.length),l[k]=ab l k:=λk hk=>by simp[ab,hk]
 rw[e i hi,e j hj];obtain⟨n,rfl⟩:∃n,j=i+1+n:=⟨j-(i+1),by omega⟩;clear jE;induction n with
 |zero=>have:=h (i+1) om hj;simpa using this
 |succ n ih=>
  have h1:=ih om
  have h2:=h (i+1+(n+1)) om hj
  rw[show i+1+(n+1)-1=i+1+n from by omega] at h2
  omega
def M3 {l:List Int} (h:jK l=true):l.Pairwise (·<·):=by
 have:=M2 (f:=λn:Int=>n) (l:=l) λi h0 hi=>by
  have:=(iR.1 h) i hi;unfold et at this;simp[mw] at this;have h1:=this.2;omega
 simpa using this
def tU (c:Call):Bool:=!(decide ((c.keys.length:Int)<1)||decide (3<(c.keys.length:Int))||((c.kind==1)&&((c.keys.length:Int) !=1)))&&jK c.keys
def M4 (c:Call):(aQ c.kind 1 2&&tU c)=ie c:=by
 unfold tU ie;cases jK c.keys
 .simp
 rw[Bool.eq_iff_iff];simp[aQ];omega
def ov (c:Call) (time:Int):Bool:=!(!aQ c.aA 0 1||!aQ c.num 1 99||!aQ c.kind 1 2||!tU c||!aQ c.val 0 9999||!bP c.ctx||!bP c.aL||!aQ c.bq 1 time)
def ow (w:aJ):Bool:=!(!aQ w.time 0 99999||((w.aC.length:Int) !=4)||decide (60<(w.au.length:Int))||((w.seen.length:Int) !=2))
def tV (l:List an):Bool:=!bP l
def dI (a b:cA):cA:=if c8 a b then b else a
def Bo (a b x:cA):c8 x (dI a b)=(c8 x a||c8 x b):=by
 obtain⟨t,s⟩:=a;obtain⟨t',s'⟩:=b;obtain⟨t2,s2⟩:=x;unfold dI;rw[Bool.eq_iff_iff];by_cases h:c8 ⟨t,s⟩ ⟨t',s'⟩=true
 .rw[if_pos h];simp[c8] at h⊢;omega
 rw[if_neg h];simp[c8] at h⊢;omega
def j9 (e:an) (r:List an) (key:Int):cv (e::r) key=if e.key=key then e.ax else cv r key:=by
 unfold cv;rw[List.find?_cons];by_cases h:e.key=key
 .rw[if_pos h,show nx key e=true by simp[nx,h]]
 rw[if_neg h,show nx key e=false by simp[nx,h]]
def wg:∀{l:List an} {last key:Int},dm last l=true->key<=last->cv l key=⟨0,0⟩
 |[],_,_,_,_=>rfl
 |e::r,last,key,h,hk=>by
  have hh:=h;simp only[dm,Bool.and_eq_true,aQ,decide_eq_true_eq] at h;rw[j9,if_neg om];exact wg h.2 om
def ll (out:List an) (a:Answer):List an:=iZ out a.bF.aS
def eL (c:Call):List an:=c.az.foldl ll []
def pN (out:List an) (a:Answer):List an:=if a.yes then fR (iZ out a.bF.aS) a.bF.bG else out
def jx (c:Call):List an:=if c.end_=0 then c.ctx else if c.kind=1 then fR c.ctx ⟨ab c.keys 0,c.ax⟩ else c.az.foldl pN c.ctx
def sh {a:Answer} (h:dH a=true) (hy:a.yes=true):eD a.bF=true/\a.bF.key=a.key:=by
 unfold dH at h;rw[hy] at h;simpa using h
def Bp {a:Answer} (h:dH a=true) (hy:a.yes=false):a.bF=rP:=by
 unfold dH at h;rw[hy] at h;simpa[pB] using h
def qU {a:Answer} (h:dH a=true):bP a.bF.aS=true:=by
 cases hy:a.yes
 .rw[Bp h hy];rfl
 exact(jL (sh h hy).1).2.2
def yt {a:Answer} (h:dH a=true) (hy:a.yes=true):gU a.bF.bG=true/\a.bF.bG=⟨a.key,a.bF.ax⟩:=by
 have h1:=sh h hy;have h2:=jL h1.1;refine⟨by simp[gU,aD.bG,h2.1,h2.2.1],?_⟩;rw[<-h1.2];rfl
def jm (out:List aD) (v:aD):List aD:=if placeOf out v.bG<0 then ej out v else out
def Ww {out:List aD} {v x:aD} (h:x∈jm out v):x=v\/x∈out:=by
 unfold jm at h;split at h
 .exact lN.1 h
 exact Or.inr h
def Wx (out:List aD) (v:aD):(jm out v).length<=out.length+1:=by
 unfold jm;split
 .rw[K9];exact Nat.le_refl _
 omega
def Ft:∀{l out:List aD} {x:aD},x∈l.foldl jm out->x∈l\/x∈out
 |[],_,_,h=>Or.inr h
 |v::r,out,x,h=>by
  rcases Ft (l:=r) h with h1|h1
  .exact Or.inl (by simp[h1])
  rcases Ww h1 with rfl|h2
  .exact Or.inl bt
  exact Or.inr h2
def M5:∀(l out:List aD),(l.foldl jm out).length<=out.length+l.length
 |[],_=>by simp
 |v::r,out=>by
  have:=M5 r (jm out v);have h2:=Wx out v;simp at this⊢;omega
def Wy {l out:List aD} {k:Nat} (h:k<l.length):(l.take (k+1)).foldl jm out=jm ((l.take k).foldl jm out) (ab l k):=by
 rw[dO h,List.foldl_append];rfl
def ja (l:List aD) (d:an):Option aD:=if 0<=placeOf l d then some (ab l (placeOf l d).toNat) else none
def yu {l:List cA} {k:Nat} (h:k<l.length):mB (l.take (k+1))=if mB (l.take k)<(ab l k).time then(ab l k).time else mB (l.take k):=by
 unfold mB;rw[dO h,List.foldl_append];rfl
def M6 (e d:an):(decide (d.key<e.key)||((e.key==d.key)&&c8 d.ax e.ax))=dF d e:=by
 unfold dF;by_cases h:e.key=d.key
 .simp[h]
 have e1:(e.key==d.key)=false:=by simpa using h
 have e2:(d.key==e.key)=false:=by simpa usingλx=>h x.symm
 rw[e1,e2]
def ny (s:Server) (m:aw):Server:=
 if cQ m.aY&&(ct m.aY !=ct s.site)&&decide (0<=gh s.aE ⟨m.key,m.ax⟩)&&(eB s m.key==1) then
  {s with aE:=s.aE.take (gh s.aE ⟨m.key,m.ax⟩).toNat++s.aE.drop ((gh s.aE ⟨m.key,m.ax⟩).toNat+1)}
 else s
def jb (l:List aD) (vs:List aD):List aD:=vs.foldl jm l
def qV (s:Server) (m:aw):Server:=
 let x:=eb s m.slot
 {x with aN:=x.aN.set m.slot.toNat ⟨m.bU,1⟩,ar:=jb x.ar m.ar,waits:=jb x.waits m.waits,aE:=m.aE.foldl ek x.aE}
def nz (s:Server) (m:aw):Server:=
 if(m.aY==eS s.site)&&((ab s.aN m.slot.toNat).eH==2)&&((ab s.aN m.slot.toNat).bU==m.bU) then gW (rU s m) else s
def jy (s:Server) (d:an):List aw:=
 if eB s d.key==1 then[{bW with kind:=5,aY:=s.site,to:=2-2*ct s.site,ar:=(ja s.ar d).toList},{bW with kind:=5,aY:=s.site,to:=2-2*ct s.site+1,ar:=(ja s.ar d).toList}] else[]
def lq (s:Server) (asked:List an) (d:an):List an:=if mC s d||decide (0<=gh asked d) then asked else asked++[d]
def yv (s:Server):List an:=(s.waits.map aD.aS).flatten.foldl (lq s) []
def jn (q:Call) (m:aw):List aw:=[{m with aY:=10+q.aA,to:=2*q.aA,call:=q.num},{m with aY:=10+q.aA,to:=2*q.aA+1,call:=q.num}]
def asks (q:Call):List aw:=
 if q.kind=1 then[{bW with kind:=1,key:=ab q.keys 0,val:=q.val,aS:=q.ctx}]
 else(q.keys.filter λk=>decide (cE q k<0)).map (λk=>{bW with kind:=3,key:=k})++q.aL.map λd=>{bW with kind:=3,key:=d.key,ax:=d.ax}
def mJ (qW:List an) (a:Answer):List an:=if c8 a.bF.ax (cv qW a.key) then[⟨a.key,cv qW a.key⟩] else[]
def ka (q:Call):List an:=(q.az.map (mJ (eL q))).flatten
def lU (e:Ev):List Int:=e.a::(if e.call=2/\e.a<e.b then e.b::(if e.b<e.c then[e.c] else[]) else[])
def qX (calls:List Call) (aA:Int):Int:=calls.foldl (λn q=>if q.aA=aA then q.num else n) 0
def yw (site:Nat):Server:=⟨site,true,(List.range 3).map λi=>if i%2=site%2 then⟨1,1⟩ else⟨0,0⟩,[],[],[],[]⟩
def gC:aJ:=⟨0,(List.range 4).map yw,[],[],[[],[]]⟩
def Wz (l:List an) (key:Int):
 Fn prog 189 [bf l,AV.int key] ((cv l key).av):=by
 refine Fn.go 21 func189 ntmps189 (λW I a U=>?_);have hle:=U.eh (t:=0) rfl;refine sr<|U.alloc rfl iH gx λb4 I a w U=>?_;refine aM λI a w U=>?_;refine St.lo (σ:=Nat) (6::(run 11 9 [])) ⟨λk=>[(9,AV.int k)],λk=>[Own.box b4 42 [AV.val (.int .i64 0),AV.val (.int .i64 0)]],λk=>k<=l.length/\∀i,i<k->nx key (ab l i)=false⟩ (λk=>l.length-k) 0 U ?aH ?bx;case aH=>exact⟨Nat.zero_le _,λi hi=>by omega⟩
 rintro k I a w al U;obtain⟨hk,aU⟩:=al;refine ao λI a w U=>?_;refine cz (λae=>?_) λae=>?_
 .refine aF λI a w U=>?_;refine U.alloc rfl cx ez λb6 I a w U=>?_;refine ao λI a w U=>?_;obtain⟨I,U⟩:=U.fb 1 6;refine aV λI a w U=>?_;refine U.cd (λah=>?_) λah=>?_
  .refine aM λI a w U=>?_;refine U.ret rfl (.cons (.sx 0) aX.nil) ?_;exact(by rw[MX ae aU ah];rfl)
  refine aq λI a w U=>?_;have U:=U.drop 1;exact U.ag (k+1) (⟨ae,λi h1=>by rcases Nat.lt_succ_iff_lt_or_eq.1 h1 with h|h;exact aU i h;rw[h];exact ah⟩)
 refine zt ?_;refine U.o (.bd gx aT.nil) λU=>?_;refine ao λI a w U=>?_;refine U.ret rfl (.cons (.sx 0) aX.nil) ?_;exact(by rw[MY om aU];rfl)
def WA (l:List an) (key:Int) (hl:bP l=true):
 Fn prog 369 [bf l,AV.int key] ((cv l key).av):=by
 refine Fn.go 29 func369 ntmps369 (λW I a U=>?_);have hle:=U.eh (t:=0) rfl;refine sr<|U.alloc rfl iH gx λb4 I a w U=>?_;refine bw λI a w U=>?_;refine U.o (.cl (m7 ..)) λU=>?_;refine ao λI a w U=>?_;refine U.cd (λae=>?_) λae=>?_
 .exfalso;rw[hl] at ae;cases ae;skip
 refine ao λI a w U=>?_;refine St.lo (σ:=Nat) (5::(run 18 10 [])) ⟨λk=>[(5,AV.int k)],λk=>[Own.box b4 42 [AV.val (.int .i64 0),AV.val (.int .i64 0)]],λk=>k<=l.length/\∀i,i<k->nx key (ab l i)=false⟩ (λk=>l.length-k) 0 U ?aH ?bx;case aH=>exact⟨Nat.zero_le _,λi hi=>by omega⟩
 rintro k I a w al U;obtain⟨hk,aU⟩:=al;refine aV λI a w U=>?_;refine cz (λah=>?_) λah=>?_
 .refine ib λI a w U=>?_;refine U.cd (λaj=>?_) λaj=>?_
  .refine iU λI a w U=>?_;refine U.ret rfl (.cons (.sx 0) aX.nil) ?_;exact(by rw[MX ah aU aj];rfl)
  refine aM λI a w U=>?_;exact U.ag (k+1) (⟨ah,λi h1=>by rcases Nat.lt_succ_iff_lt_or_eq.1 h1 with h|h;exact aU i h;rw[h];exact aj⟩)
 refine zt ?_;refine U.o (.bd gx aT.nil) λU=>?_;refine ao λI a w U=>?_;refine U.ret rfl (.cons (.sx 0) aX.nil) ?_;exact(by rw[MY om aU];rfl)
def WB (v:Value) (l:List (List AV)) (x:List AV) (i:Nat) (hi:i<=l.length) (hl:l.length<=1048576) (dP:∀r∈l,r.length=7) (hx:x.length=7):
 fQ prog 220 [AV.val v,AV.int i,AV.rows 7 [x]] [Own.row v 54 7 l] [] (AV.rows 7 (l.take i++x::l.drop i)):=by
 refine fQ.intro 95 func220 rfl ntmps220 rfl aP (λW I a U=>?_);obtain⟨q,cap,rfl,kD⟩:=U.xv 0 rfl;refine bc λI a w U=>?_;refine U.o (DE dA bL .tt .tt ⟨by omega,by omega⟩ kD) λU=>?_;refine bw λI a w U=>?_;refine U.o (wQ dA .tt) λU=>?_;rw[show(([x]:List (List AV)).length:Int)=1 from rfl] at U;refine aM λI a w U=>?_;refine U.cd (λae=>?_) λae=>?_
 .exfalso;simp at ae;skip
 refine iU λI a w U=>?_;refine cz (λah=>?_) λah=>?_
 .refine aF λI a w U=>?_;refine U.append 0 rfl dA bL rfl .tt .tt rfl (by simp only[List.length_singleton];omega) λtG a w U=>?_;obtain⟨I,U⟩:=U.fr 0 25;have U:=U.drop 0;refine ao λI a w U=>?_;refine U.qv rfl (.cons .x .nil) rfl ?_;exact congrArg (AV.rows 7) (by rw[show i=l.length by omega];simp)
 refine bj λI a w U=>?_;refine U.o (DG dA .tt) λU=>?_;refine ao λI a w U=>?_;refine cz (λaj=>?_) λaj=>?_
 .refine zt ?_;have bH:l≠[]:=by intro e;rw[e] at hi ah;simp at hi ah;omega
  obtain⟨b,l7,he,l8,l9,kQ,U⟩:=U.qn 0 rfl bH;simp only[Value.slice.injEq] at he;obtain⟨rfl,_,rfl⟩:=he;have hA:(l.take i).flatten.length=i*7:=by rw[fM λr hr=>dP r (List.mem_of_mem_take hr),List.length_take,Nat.min_eq_left hi]
  have hB:(l.drop i).flatten.length=(l.length-i)*7:=by rw[fM λr hr=>dP r (List.mem_of_mem_drop hr),List.length_drop]
  rw[show l.flatten=(l.take i).flatten++(l.drop i).flatten by rw[<-List.flatten_append,List.take_append_drop],List.map_append] at U;have fG:([x]:List (List AV)).flatten.length=7:=by simpa using hx
  have hlen:(l.take i++x::l.drop i).length=l.length+1:=by simp;omega
  have lf:∀r∈l.take i++x::l.drop i,r.length=7:=λr hr=>(List.mem_append.1 hr).elim (λh=>dP r (List.mem_of_mem_take h)) λh=>(List.mem_cons.1 h).elim (λe=>e▸hx) λh=>dP r (List.mem_of_mem_drop h);have oj:(l.take i++x::l.drop i).flatten.map some=(l.take i).flatten.map some++([x]:List (List AV)).flatten.map some++(l.drop i).flatten.map some:=by simp
  refine aF λI a w U=>?_;refine U.o (qt (hi:=i) dA bL .tt .tt rfl om om) λU=>?_;refine bK λI a w U=>?_;refine U.DH (iS:=l.length+1-i) (xs:=(l.take i).flatten) 0 dA nP bL rfl aO .tt .tt om om rfl (by rw[List.drop_zero,List.append_assoc];exact jt _ (List.length_map _)) hA om om om rfl λ{gb yg a w} sO rH U=>?_;refine bc λI a w U=>?_;refine U.o (ji (lo:=i) dA bL .tt .tt rfl om om) λU=>?_;refine U.m λU=>?_;refine U.ve 1 dA bL .tt .tt rfl bt (by simp only[List.length_singleton];omega) (by simp only[List.length_singleton,List.length_append,List.length_map,List.length_replicate,hA];omega) rfl λU=>?_;refine zt ?_;refine U.dt 8 ?_;simp only[TD];refine dq ?_;refine .o (ji (lo:=i+1) dA bL .tt .tt om om om) ?_;refine cg ?_;refine .o (ji (lo:=i) dA bL .tt .tt rfl om om) ?_;refine .nil ?_;intro I a w U;refine U.vf (xs:=(l.drop i).flatten) 1 0 dA bL .tt .tt rfl rfl (by rw[List.append_assoc,s6 _ (by simp only[List.length_map,hA];omega)];exact jt _ (List.length_map _)) (by rw[hB,Nat.min_eq_left om]) (by rw[jR (by simp only[List.length_map,List.length_append,List.length_replicate,fG,hA];omega)];simp only[List.length_append,List.length_map,List.length_replicate,hA,hB];omega) rfl λU=>?_;rw[DP (by simp only[List.length_map,hA];omega) (by simp only[List.length_map,fG];omega) (by simp only[List.length_map,List.length_replicate,fG,hB];omega)] at U;have U:=U.qp (l:=l.take i++x::l.drop i) (cap:=yg) 1 rfl (by simp only[List.length_append,List.length_map,List.length_drop,List.length_replicate,hA,hB,fG];omega) lf om om om (by rw[oj,hlen];exact jt _ (by simp only[List.length_append,List.length_map,hA,hB,fG];omega));rw[show i+(l.length+1-i)=(l.take i++x::l.drop i).length by omega] at U;obtain⟨I,U⟩:=U.fr 1 9;have U:=U.drop 0;refine aq λI a w U=>?_;exact U.qv rfl (.cons (by first|exact .t rfl|exact .nil rfl) .nil) rfl rfl
 refine zt ?_;have bH:l≠[]:=by intro e;rw[e] at hi ah;simp at hi ah;omega
 obtain⟨b,l7,he,l8,l9,kQ,U⟩:=U.qn 0 rfl bH;simp only[Value.slice.injEq] at he;obtain⟨rfl,_,rfl⟩:=he;have hA:(l.take i).flatten.length=i*7:=by rw[fM λr hr=>dP r (List.mem_of_mem_take hr),List.length_take,Nat.min_eq_left hi]
 have hB:(l.drop i).flatten.length=(l.length-i)*7:=by rw[fM λr hr=>dP r (List.mem_of_mem_drop hr),List.length_drop]
 rw[show l.flatten=(l.take i).flatten++(l.drop i).flatten by rw[<-List.flatten_append,List.take_append_drop],List.map_append] at U;have fG:([x]:List (List AV)).flatten.length=7:=by simpa using hx
 have hlen:(l.take i++x::l.drop i).length=l.length+1:=by simp;omega
 have lf:∀r∈l.take i++x::l.drop i,r.length=7:=λr hr=>(List.mem_append.1 hr).elim (λh=>dP r (List.mem_of_mem_take h)) λh=>(List.mem_cons.1 h).elim (λe=>e▸hx) λh=>dP r (List.mem_of_mem_drop h);have oj:(l.take i++x::l.drop i).flatten.map some=(l.take i).flatten.map some++([x]:List (List AV)).flatten.map some++(l.drop i).flatten.map some:=by simp
 refine bj λI a w U=>?_;refine U.o (qt (hi:=l.length+1) dA bL .tt .tt om om om) λU=>?_;refine dp λI a w U=>?_;refine U.o (ji (lo:=i+1) dA bL .tt .tt om om om) λU=>?_;refine U.overlaps (tR:=4) 0 func280 rfl aP aP aP dA bL aO .tt bt .tt rfl rfl λU=>?_;refine ao λI a w U=>?_;refine U.cd (λaG=>?_) λaG=>?_
 .refine wp_seq ?_;refine U.dt 8 ?_;simp only[TD];refine dq ?_;refine .o (ji (lo:=i+1) dA bL .tt .tt om om om) ?_;refine cg ?_;refine .o (ji (lo:=i) dA bL .tt .tt rfl om om) ?_;refine .nil ?_;intro I a w U;refine U.vf (xs:=(l.drop i).flatten) 0 0 dA bL .tt .tt rfl rfl (by rw[List.append_assoc,s6 _ (by simp only[List.length_map,hA];omega)];exact jt _ (List.length_map _)) (by rw[hB];congr 1;omega) (by simp only[List.length_append,List.length_map,List.length_replicate,hA,hB];omega) rfl λU=>?_;refine aF λI a w U=>?_;refine U.o (ji (lo:=i) dA bL .tt .tt rfl om om) λU=>?_;refine U.m λU=>?_;refine U.ve 0 dA bL .tt .tt rfl bt (by simp only[List.length_singleton];omega) (by rw[jR (by simp only[List.length_map,List.length_append,List.length_replicate,hA,hB];omega)];simp only[List.length_singleton,List.length_append,List.length_map,List.length_replicate,hA,hB];omega) rfl λU=>?_;rw[DO (by simp only[List.length_map,hA];omega) (by simp only[List.length_map,fG];omega) (by simp only[List.length_map,List.length_replicate,fG];omega)] at U;have U:=U.qp (l:=l.take i++x::l.drop i) (cap:=cap) 0 rfl (by simp only[List.length_append,List.length_map,List.length_drop,List.length_replicate,hA,hB,fG];omega) lf om om om (by rw[oj,hlen];exact jt _ (by simp only[List.length_append,List.length_map,hA,hB,fG];omega));rw[show l.length+1=(l.take i++x::l.drop i).length by omega] at U;obtain⟨I,U⟩:=U.fr 0 0;have U:=U.drop 0;refine aq λI a w U=>?_;exact U.qv rfl (.cons (by first|exact .t rfl|exact .nil rfl) .nil) rfl rfl
 exfalso;simp at aG;skip
def M7 (l:List Int) (key:Int):
 Fn prog 248 [gJ l,AV.int key] (AV.bool (gz l key)):=by
 refine Fn.go 18 func248 ntmps248 (λW I a U=>?_);have hle:=U.eh (t:=0) rfl;refine aq λI a w U=>?_;refine St.lo (σ:=Nat) (run 14 4 []) ⟨λk=>[(5,AV.int k)],λk=>[],λk=>k<=l.length/\∀i,i<k->rQ key (ab l i)=false⟩ (λk=>l.length-k) 0 U ?aH ?bx;case aH=>exact⟨Nat.zero_le _,λi hi=>by omega⟩
 rintro k I a w al U;obtain⟨hk,aU⟩:=al;refine aV λI a w U=>?_;refine cz (λae=>?_) λae=>?_
 .refine iU λI a w U=>?_;refine U.cd (λah=>?_) λah=>?_
  .refine bk ?_;exact bI (AA (bB ae) ah).symm
  refine aM λI a w U=>?_;exact U.ag (k+1) (⟨by omega,λi h1=>by rcases Nat.lt_succ_iff_lt_or_eq.1 h1 with h|h;exact aU i h;rw[h];exact ah⟩)
 refine zt ?_;refine bk ?_;exact bI (by unfold gz hasB;rw[kR om aU];rfl)
def Bq (q:Call) (key:Int):
 Fn prog 249 [q.av,AV.int key] (AV.int (cE q key)):=by
 refine Fn.go 22 func249 ntmps249 (λW I a U=>?_);have lens:q.keys.length<=9223372036854775807/\q.az.length<=9223372036854775807/\q.aL.length<=9223372036854775807:=⟨U.ln 0 3,U.ln 0 11,U.ln 0 12⟩;refine aM λI a w U=>?_;refine St.lo (σ:=Nat) (run 18 4 []) ⟨λk=>[(5,AV.int k)],λk=>[],λk=>k<=q.az.length/\∀i,i<k->qD key (ab q.az i)=false⟩ (λk=>q.az.length-k) 0 U ?aH ?bx;case aH=>exact⟨Nat.zero_le _,λi hi=>by omega⟩
 rintro k I a w al U;obtain⟨hk,aU⟩:=al;refine cn λI a w U=>?_;refine cz (λae=>?_) λae=>?_
 .refine m3 λI a w U=>?_;refine U.cd (λah=>?_) λah=>?_
  .refine dh ?_;exact eW (lK ae aU ah).symm
  refine aM λI a w U=>?_;exact U.ag (k+1) (⟨by omega,λi h1=>by rcases Nat.lt_succ_iff_lt_or_eq.1 h1 with h|h;exact aU i h;rw[h];exact ah⟩)
 refine zt ?_;refine bk ?_;exact eW (kR om aU).symm
def Br (s:cA):([s.time,s.site] !=[0,0])=!dW s:=by
 rw[Bool.eq_iff_iff];simp[dW];omega
def WC {q:Call} {time:Int} (h:ko q time=true):1<=q.bq/\q.bq<=time:=by
 simp only[ko,Bool.and_eq_true] at h;have:=h.1.1.2;simp[aQ] at this;exact this
def M8 (q:Call) (k:Nat):(decide (cE q (ab q.aL k).key<0)||!c8 (ab q.az (cE q (ab q.aL k).key).toNat).bF.ax (ab q.aL k).ax)=!sf q k:=by
 unfold sf;have e:decide (cE q (ab q.aL k).key<0)=!decide (0<=cE q (ab q.aL k).key):=by rw[Bool.eq_iff_iff];simp
 rw[e];simp
def WD (q:Call):
 Fn prog 246 [q.av] (AV.bool (tU q)):=by
 refine Fn.go 57 func246 ntmps246 (λW I a U=>?_);have lens:q.keys.length<=9223372036854775807/\q.az.length<=9223372036854775807/\q.aL.length<=9223372036854775807:=⟨U.ln 0 3,U.ln 0 11,U.ln 0 12⟩;refine Ae λI a w U=>?_;refine U.cd (λae=>?_) λae=>?_
 .refine bk ?_;exact bI (by unfold tU;rw[ae];rfl)
 refine ao λI a w U=>?_;refine St.lo (σ:=Nat) (run 2 2 (run 32 25 [])) ⟨λk=>[(3,AV.int k)],λk=>[],λk=>k<=q.keys.length/\∀i,i<k->(et cY mw q.keys) i=true⟩ (λk=>q.keys.length-k) 0 U ?aH ?bx;case aH=>exact⟨Nat.zero_le _,λi hi=>by omega⟩
 rintro k I a w al U;obtain⟨pE,aU⟩:=al;refine cn λI a w U=>?_;refine cz (λah=>?_) λah=>?_
 .refine zt ?_;refine U.dk ?_;refine eP ?_;refine .o (.c1 (rL ..)) ?_;refine mq ?_;refine dw ?_;refine .nil ?_;intro I a w U;refine ba ?_;refine U.cd (λaj=>?_) λaj=>?_
  .rw[M0] at aj;replace aj:=nt aj;refine bk ?_;exact bI (by unfold tU jK;rw[eX (f:=et cY mw q.keys) ah aj];simp)
  rw[M0] at aj;replace aj:=nf aj;refine aM λI a w U=>?_;exact U.ag (k+1) (⟨by omega,fO aU aj⟩)
 refine zt ?_;refine bk ?_;exact bI (by unfold tU jK;rw[ae,eO aU om];rfl)
def M9 {q:Call} {time:Int} (h:ov q time=true):1<=q.bq/\q.bq<=time/\q.aL.length<=6:=by
 simp only[ov,Bool.not_eq_true',Bool.or_eq_false_iff] at h;have h1:=h.2;have h2:=h.1.2;simp at h2;have:=dY h2;simp[aQ] at h1;omega
def Bs:xy prog 162 3 3 (λx:Int=>Lit.int .i64 x) (λx:Int=>Value.int .i64 x) (λx=>.lit (.int .i64 x)) (λx=>-9223372036854775808<=x/\x<=9223372036854775807) 0:=Sp Tn nP nP λw=>cB.zero
def WE (n:Nat):decide ((n:Int)<=20)=decide (n<=20):=by rw[Bool.eq_iff_iff];simp;omega
def Na {d q:Call} (h:d.aA=q.aA):(!d.over&&((d.end_==0)||decide (q.bq<=d.end_)))=kq d q:=by
 unfold kq;rw[h];simp
def WG {d q:Call} (h:¬d.aA=q.aA):kq d q=false:=by
 unfold kq;simp[h]
def Bt (l:List Call) (time:Int) (k:Nat):kS l time k=((vA l time k&&((ab l k).num==fT l (k+1) (ab l k).aA))&&cT k λj=>!kq (ab l j) (ab l k)):=rfl
def wh {α β:Type} [Inhabited β] {f:α->β->α} {z:α} {l:List β} {k:Nat} (h:k<l.length):(l.take (k+1)).foldl f z=f ((l.take k).foldl f z) (ab l k):=by
 rw[dO h,List.foldl_append];rfl
def wi {l:List Answer} (h:∀a∈l,dH a=true) (k:Nat):∀a∈l.take k,dH a=true:=λa ha=>h a (List.mem_of_mem_take ha)
def WH {l out:List aD} (h1:∀v∈l,v.aS.length<=6) (h2:∀v∈out,v.aS.length<=6):∀v∈l.foldl jm out,v.aS.length<=6:=λv hv=>(Ft hv).elim (h1 v) (h2 v)
def WI (n:Int) (l:List cA) (hn:cQ n=true) (hl:∀s∈l,c7 s=true):
 Fn prog 335 [AV.int n,AV.rows 2 (l.map cA.cells)] (AV.c6 [(oa n l).av,AV.bool (iW l)]):=by
 refine Fn.go 44 func335 ntmps335 (λW I a U=>?_);have hle:=U.eh (t:=1) rfl;refine sr<|U.alloc rfl iH gx λb4 I a w U=>?_;refine aF λI a w U=>?_;refine U.o (.c1 (px ..)) λU=>?_;refine ao λI a w U=>?_;refine U.cd (λae=>?_) λae=>?_
 .exfalso;rw[hn] at ae;cases ae;skip
 refine aq λI a w U=>?_;refine St.lo (σ:=Nat) (run 3 5 (run 25 12 [])) ⟨λk=>[(7,AV.int k),(6,AV.int (mB (l.take k)))],λk=>[Own.box b4 42 [AV.val (.int .i64 0),AV.val (.int .i64 0)]],λk=>k<=l.length⟩ (λk=>l.length-k) 0 U ?aH ?bx;case aH=>exact Nat.zero_le _
 rintro k I a w al U;have hk:k<=l.length:=al;refine aV λI a w U=>?_;refine cz (λah=>?_) λah=>?_
 .refine bj λI a w U=>?_;refine U.o (.c1 (th ..)) λU=>?_;refine ao λI a w U=>?_;refine U.cd (λaj=>?_) λaj=>?_
  .exfalso;simp only[B] at aj;rw[hl _ (bB ah)] at aj;cases aj;skip
  refine ib λI a w U=>?_;refine cz (λaG=>?_) λaG=>?_
  .refine m4 λI a w U=>?_;refine U.again (k+1) ?ik ?il ef ?im (by repeat(first|exact Env.le_rfl|refine Env.iB rfl ?_));case ik=>omega
   case il=>exact ah
   case im=>exact(Env.dM rfl ef (Env.dM rfl (by first|exact congrArg AV.int (by rw[yu ah,if_pos aG])|exact congrArg AV.int (by rw[yu ah,if_neg om])) Env.le_nil))
  refine aM λI a w U=>?_;refine U.again (k+1) ?ox ?oz ef ?oA (by repeat(first|exact Env.le_rfl|refine Env.iB rfl ?_));case ox=>omega
  case oz=>exact ah
  case oA=>exact(Env.dM rfl ef (Env.dM rfl (by first|exact congrArg AV.int (by rw[yu ah,if_pos aG])|exact congrArg AV.int (by rw[yu ah,if_neg om])) Env.le_nil))
 refine zt ?_;refine aq λI a w U=>?_;refine cz (λaK=>?_) λaK=>?_
 .refine zt ?_;refine U.o (.bd gx aT.nil) λU=>?_;refine aq λI a w U=>?_;rw[List.take_of_length_le om] at aK;refine U.ret rfl (.cons (.sx 0) (.cons (.t rfl) aX.nil)) ?_;have e:iW l=false:=by unfold iW;simp;omega
  exact(by unfold oa;rw[e];rfl)
 refine bw λI a w U=>?_;refine U.o (jW .tt .c (λ_=>by have:=AF hl k;omega)) λU=>?_;refine U.m λU=>?_;refine U.o (.bd gx (.k (.k aT.nil))) λU=>?_;refine aq λI a w U=>?_;rw[List.take_of_length_le om] at aK;refine U.ret rfl (.cons (.sx 0) (.cons (.t rfl) aX.nil)) ?_;have e:iW l=true:=by unfold iW;simp;omega
 exact(by unfold oa;rw[e,List.take_of_length_le om];rfl)
def Fu (l:List an) (d:an) (h:l.length<=1048575):
 Fn prog 336 [bf l,d.av] (bf (ek l d)):=by
 refine Fn.go 72 func336 ntmps336 (λW I a U=>?_);refine bj λI a w U=>?_;refine U.o (.cl (xR ..)) λU=>?_;refine ao λI a w U=>?_;refine cz (λae=>?_) λae=>?_
 .refine zt ?_;refine U.l0 λwj I a w U=>?_;refine U.m λU=>?_;refine U.ap 0 λj7 a w U=>?_;obtain⟨I,U⟩:=U.fr 0 14;refine bk ?_;exact congrArg (AV.rows 3) (by unfold ek;rw[if_pos ae];rfl)
 refine zt ?_;refine U.l0 λFv I a w U=>?_;refine aM λI a w U=>?_;refine St.lo (σ:=Nat×Bool×List an×Value) (run 3 5 (run 49 16 [])) ⟨λ⟨k,done,out,u⟩=>[(7,AV.int k),(6,AV.bool done),(5,AV.val u)],λ⟨k,done,out,u⟩=>[Own.row u 125 3 (out.map an.cells)],λ⟨k,done,out,u⟩=>kU l d k done out⟩ (λ⟨k,done,out,u⟩=>l.length-k) (0,false,[],.slice (some ⟨Fv,0,none⟩) 0 0) U ?aH ?bx;case aH=>exact kU.zero l d
 rintro⟨k,done,out,u⟩ I a w al U;have hp:kU l d k done out:=al;have hk:=hp.hk;have iO:=hp.len;have mZ:done.toNat<=1:=by cases done<;>simp
 dsimp only at U;refine aV λI a w U=>?_;refine cz (λah=>?_) λah=>?_
 .refine zt ?_;refine U.dk ?_;refine mq ?_;refine Af ?_;refine .q .T2 (.cl (tj ..)) ?_;refine dw ?_;refine .nil ?_;intro I a w U;refine ba ?_;refine U.cd (λaj=>?_) λaj=>?_
  .rw[M6] at aj;simp only[B] at aj;refine aF λI a w U=>?_;refine U.o (.li [d.cells] eJ (.u .nil)) λU=>?_;refine U.ap 0 λv57 a w U=>?_;rw[bN] at U;refine fm λI a w U=>?_;refine U.o (.li [(ab l k).cells] eJ (.u .nil)) λU=>?_;refine U.ap 0 λFw a w U=>?_;rw[bN] at U;refine aV λI a w U=>?_;exact U.ag (k+1,true,(out++[d])++[ab l k],Fw) (by obtain⟨h1,h2⟩:=aj;subst h1;exact hp.before ah h2)
  rw[M6] at aj;simp only[B] at aj;refine bK λI a w U=>?_;refine U.o (.li [(ab l k).cells] eJ (.u .nil)) λU=>?_;refine U.ap 0 λFw a w U=>?_;rw[bN] at U;refine aV λI a w U=>?_;exact U.ag (k+1,done,out++[ab l k],Fw) (hp.step ah (by simpa using aj))
 refine zt ?_;refine aq λI a w U=>?_;refine cz (λaG=>?_) λaG=>?_
 .refine aF λI a w U=>?_;refine U.o (.li [d.cells] eJ (.u .nil)) λU=>?_;refine U.ap 0 λv70 a w U=>?_;rw[bN] at U;refine aM λI a w U=>?_;obtain⟨I,U⟩:=U.fr 0 4;refine U.rt ?_;exact congrArg (AV.rows 3) (by subst aG;unfold ek;rw[if_neg om];exact hp.nX om▸rfl)
 refine aq λI a w U=>?_;obtain⟨I,U⟩:=U.fr 0 4;refine U.rt ?_;exact congrArg (AV.rows 3) (by subst aG;unfold ek;rw[if_neg om,hp.nW om])
def Nb {l:List an} {d:an} (h:0<=gh l d):(gh l d).toNat<l.length:=by
 unfold gh di at*;split at h
 .rename_i k hk;obtain⟨h1,_⟩:=List.findIdx?_eq_some_iff_getElem.1 hk;simpa using h1
 omega
def Nc {m:aw} (h:bQ m=true):cY m.key=true:=by
 simp only[bQ,Bool.and_eq_true] at h;exact h.1.1.1.1.1.1.1.1.2
def bA.wait {s:Server} (h:bA s) {v:aD} (hc:fW s.waits v=true) (hp:placeOf s.ar v.bG<0) (hf:ct v.ax.site≠ct s.site) (bX:eB s v.key≠0):bA {s with waits:=ej s.waits v}:=by
 have al:=h.ok.ED hc hp;refine⟨h.site,h.aN,h.ar,al.waits,h.aE,h.bn,h.up,h.cH,h.here,λx hx=>?_,λx hx=>?_,λx hx=>nZ (al.apart x hx),h.ni⟩
 .rcases lN.1 hx with rfl|hx
  .exact bX
  exact h.ng x hx
 rcases lN.1 hx with rfl|hx
 .exact hf
 exact h.nh x hx
def bA.WJ {s:Server} (h:bA s) {d:an} (hd:jP d=true) (hl:s.bn.length<80) (hu:s.up=true):bA {s with bn:=ek s.bn d}:=
 ⟨h.site,h.aN,h.ar,h.waits,h.aE,Ln h.bn hd hl,(λe=>by rw[hu] at e;cases e),h.cH,h.here,h.ng,h.nh,h.apart,h.ni⟩
def Nd {l:List aD} {d:an} {v:aD} (h:ja l d=some v):v∈l/\v.bG=d:=by
 unfold ja at h;split at h
 .rename_i hp;obtain⟨h1,h2⟩:=xN hp;cases h;exact⟨bB h1,h2⟩
 cases h
def WK {s:Server} {asked:List an} {d x:an} (h:x∈lq s asked d):x∈asked\/x=d:=by
 unfold lq at h;split at h
 .exact .inl h
 rcases List.mem_append.1 h with h|h
 .exact .inl h
 exact .inr (by simpa using h)
def Nf {s:Server}:∀{l asked:List an} {x:an},x∈l.foldl (lq s) asked->x∈asked\/x∈l
 |[],_,_,h=>.inl h
 |d::r,asked,x,h=>by
  rcases Nf (l:=r) h with h|h
  .rcases WK h with h|h
   .exact .inl h
   exact .inr (by simp[h])
  exact .inr (by simp[h])
def WL {s:Server} (h:bA s):∀d∈yv s,jP d=true:=by
 intro d hd;rcases Nf hd with hd|hd
 .simp at hd
 obtain⟨ds,h1,h2⟩:=List.mem_flatten.1 hd;obtain⟨v,hv,rfl⟩:=List.mem_map.1 h1;exact EK (jL (gP h.waits v hv)).2.2 d h2
def wk {q:Call} {key:Int} (h:0<=cE q key):(cE q key).toNat<q.az.length/\(ab q.az (cE q key).toNat).key=key:=by
 refine⟨sg h,?_⟩;unfold cE di at*;split at h
 .rename_i k hk;obtain⟨h1,h2,_⟩:=List.findIdx?_eq_some_iff_getElem.1 hk;simpa[ab,h1,qD] using h2
 omega
def WM {l:List Answer} (h:l.Pairwise λa b=>fS a b=true) {i j:Nat} (hi:i<l.length) (hj:j<l.length) (he:(ab l i).key=(ab l j).key):i=j:=by
 rcases Nat.lt_trichotomy i j with cj|h'|cj
 .have:=xS h cj hj;unfold fS at this;rw[decide_eq_true_eq] at this;omega
 .exact h'
 have:=xS h cj hi;unfold fS at this;rw[decide_eq_true_eq] at this;omega
def WN {q:Call} {d:an} (h:d∈ka q):∃a∈q.az,d=⟨a.key,cv (eL q) a.key⟩/\c8 a.bF.ax d.ax=true:=by
 unfold ka at h;obtain⟨ds,h1,h2⟩:=List.mem_flatten.1 h;obtain⟨a,ha,rfl⟩:=List.mem_map.1 h1;unfold mJ at h2;split at h2
 .rename_i hl;obtain rfl:d=_:=by simpa using h2
  exact⟨a,ha,rfl,hl⟩
 simp at h2
def Ng {l:List an} (h:bP l=true) {a b:an} (ha:a∈l) (hb:b∈l) (he:a.key=b.key):a=b:=by
 obtain⟨i,hi,rfl⟩:=iz ha;obtain⟨j,hj,rfl⟩:=iz hb;rcases Nat.lt_trichotomy i j with cj|rfl|cj
 .have:=xJ h cj hj;omega
 .rfl
 have:=xJ h cj hi;omega
def Nh (l:List aD) (v:aD):(!eD v||decide (0<=placeOf l v.bG)||((l.length:Int)==80))=!(eD v&&decide (placeOf l v.bG<0)&&!decide (l.length=80)):=by
 have e:((l.length:Int)==80)=decide (l.length=80):=by rw[Bool.eq_iff_iff];simp;omega
 have e2:decide (0<=placeOf l v.bG)=!decide (placeOf l v.bG<0):=by rw[Bool.eq_iff_iff];simp
 rw[e,e2];simp
def Ni {l:List aD} (v:aD) (h:bY l=true):(eD v&&decide (placeOf l v.bG<0)&&!decide (l.length=80))=fW l v:=by
 have hl:=fV h;have e:(!decide (l.length=80))=decide (l.length<80):=by rw[Bool.eq_iff_iff];simp;omega
 unfold fW;rw[e]
def Nj (s:Server) (m:aw):((m.aY !=eS s.site)||!gV s ⟨m.key,m.ax⟩||decide (80<=(s.bn.length:Int)))=!((m.aY==eS s.site)&&gV s ⟨m.key,m.ax⟩&&decide (s.bn.length<80)):=by
 have e:decide (80<=(s.bn.length:Int))=!decide (s.bn.length<80):=by rw[Bool.eq_iff_iff];simp;omega
 rw[e];simp[bne]
def yx {l:List aD} (h:bY l=true) (d:an):jk l d=ja l d:=by unfold jk ja;simp[h]
def Bu {s:Server} {m:aw} (h:(gf s.ar m.key).isSome=true):m.aS.map an.ax++[((gf s.ar m.key).getD default).ax]=jl s m:=by
 obtain⟨v,hv⟩:=Option.isSome_iff_exists.1 h;unfold jl;rw[hv];rfl
def Fx {s:Server} {m:aw} (h:bA s) (hm:bQ m=true) (ho:fw s m.key=true) (hk:(iW (jl s m)&&fW s.ar (gm s m)&&decide (s.aE.length<80))=true):bA {s with ar:=ej s.ar (gm s m),aE:=ek s.aE (gm s m).bG}:=by
 simp only[Bool.and_eq_true,decide_eq_true_eq] at hk;obtain⟨a1,a2,a3⟩:=EM h hm hk.1.1;exact h.put hk.1.2 (by rw[a1]) (by show eB s m.key≠0;rw[(AN ho).2];omega) hk.2
def Fy {s:Server} {m:aw} (h:(aQ m.aY 10 11&&decide (1<=m.call)&&fw s m.key)=true) (hv:(jT s m.key (m.aY-10) m.call).isSome=false) (hf:(iW (jl s m)&&fW s.ar (gm s m)&&decide (s.aE.length<80))=false):gX s m=(s,[]):=by
 have hv:=xZ (o:=jT s m.key (m.aY-10) m.call) (by rw[hv];rfl);unfold gX;rw[h,hv];dsimp only;rw[hf];rfl
def WO {l:List aD} {v:aD} (hv:eD v=true) (hl:l.length<80):(if fW l v then ej l v else l)=jm l v:=by
 unfold fW jm;rw[hv];by_cases hp:placeOf l v.bG<0
 .simp[hp,hl]
 simp[hp]
def WQ {l:List aD} {v:aD} (hc:bY l=true) (hv:eD v=true) (hl:l.length<80):bY (jm l v)=true:=by
 unfold jm;split
 .rename_i hp;exact xT hc hv hp hl
 exact hc
def Bv {l vs:List aD} {k:Nat} (h:k<vs.length):jb l (vs.take (k+1))=jm (jb l (vs.take k)) (ab vs k):=Wy h
def Fz (l vs:List aD) (k:Nat):(jb l (vs.take k)).length<=l.length+k:=by
 have h1:=M5 (vs.take k) l;have h2:(vs.take k).length<=k:=by simp;omega
 unfold jb;omega
def Nk:∀{vs l:List aD} {x:aD},x∈l->x∈vs.foldl jm l
 |[],l,x,h=>h
 |v::vs,l,x,h=>by
  refine Nk (vs:=vs) ?_;unfold jm;split
  .exact lN.2 (.inr h)
  exact h
def Nl {l vs:List aD} {k:Nat} (hv:VS vs) (hk:k<vs.length) (hp:placeOf l (ab vs k).bG<0):ej (jb l (vs.take k)) (ab vs k)=jb l (vs.take (k+1)):=by
 rw[Bv hk,jm,if_pos];refine AE λx hx=>?_;rcases Ft hx with h|h
 .obtain⟨i,hi,rfl⟩:=iz h;have iu:i<k:=by simp at hi;omega
  have e:ab (vs.take k) i=ab vs i:=by unfold ab;simp[List.getD_eq_getElem?_getD,List.getElem?_take,iu]
  rw[e];exact Li hv om hk om
 exact nZ hp x h
def Nm {l vs:List aD} {k:Nat} (hk:k<vs.length) (hp:¬placeOf l (ab vs k).bG<0):jb l (vs.take k)=jb l (vs.take (k+1)):=by
 rw[Bv hk,jm,if_neg];intro hn;obtain⟨x,hx,e⟩:=EG.1 (show 0<=placeOf l (ab vs k).bG by omega);exact nZ hn x (Nk hx) e
def WR {l vs:List aD} (hl:∀v∈l,v.aS.length<=6) (hv:∀v∈vs,v.aS.length<=6) (k:Nat):∀v∈jb l (vs.take k),v.aS.length<=6:=
 WH (λv h=>hv v (List.mem_of_mem_take h)) hl
def Nn {l vs:List aD} (hl:bY l=true) (hv:bY vs=true) (hn:l.length+vs.length<=80):∀k,k<=vs.length->bY (jb l (vs.take k))=true
 |0,_=>by simpa[jb] using hl
 |k+1,hk=>by
  have h1:=Nn hl hv hn k om;have h2:=Fz l vs k;rw[Bv om];exact WQ h1 (gP hv _ (bB om)) om
def No {l vs:List aD} {k:Nat} (hl:bY l=true) (hv:bY vs=true) (hn:l.length+vs.length<=80) (hk:k<vs.length):Fn prog 295 [bV (jb l (vs.take k)),(ab vs k).av] (AV.c6 [bV (jb l (vs.take (k+1))),AV.bool (fW (jb l (vs.take k)) (ab vs k))]):=by
 have h2:=Fz l vs k;have:=AK (jb l (vs.take k)) (ab vs k) (Nn hl hv hn k om);rwa[WO (gP hv _ (bB hk)) om,<-Bv hk] at this
def qY (s:Server) (k:Nat):List Nat:=(List.range k).filter λi=>(ab s.aN i).eH==2
def WS {s:Server} {k:Nat} (h:(ab s.aN k).eH=2):qY s (k+1)=qY s k++[k]:=by
 unfold qY;rw[List.range_succ,List.filter_append];simp[h]
def WT {s:Server} {k:Nat} (h:¬(ab s.aN k).eH=2):qY s (k+1)=qY s k:=by
 unfold qY;rw[List.range_succ,List.filter_append];simp[h]
def WU (s:Server) (k:Nat):(qY s k).length<=k:=by
 have:=List.length_filter_le (λi=>(ab s.aN i).eH==2) (List.range k);rw[List.length_range] at this;exact this
def mK (s:Server) (k:Nat):List aw:=(qY s k).map λi:Nat=>gj s (i:Int)
def Np {s:Server} {k:Nat} (h:(ab s.aN k).eH=2):mK s k++[gj s (k:Int)]=mK s (k+1):=by
 unfold mK;rw[WS h,List.map_append];rfl
def Nq {s:Server} {k:Nat} (h:¬(ab s.aN k).eH=2):mK s k=mK s (k+1):=by
 unfold mK;rw[WT h]
def FA (s:Server) (k:Nat):(mK s k).length<=k:=by unfold mK;rw[List.length_map];exact WU s k
def g7 (s:Server) (k:Nat):List aw:=mK s 3++((s.aE.take k).map (jy s)).flatten
def Bw {s:Server} {k:Nat} (h:k<s.aE.length):g7 s (k+1)=g7 s k++jy s (ab s.aE k):=by
 unfold g7;rw[dO h,List.map_append,List.flatten_append,List.append_assoc];simp
def Nr (s:Server) (d:an):(jy s d).length<=2:=by unfold jy;split<;>simp
def wm (s:Server):∀k,k<=s.aE.length->(g7 s k).length<=3+2*k
 |0,_=>by have:=FA s 3;simp[g7];omega
 |k+1,h=>by have:=wm s k om;have:=Nr s (ab s.aE k);rw[Bw om,List.length_append];omega
def Ns {s:Server} {d:an} (h:¬eB s d.key=1):jy s d=[]:=by unfold jy;rw[if_neg (by simpa using h)]
def WV {s:Server} {d:an} (h:eB s d.key=1):(jy s d).length=2:=by unfold jy;rw[if_pos (by simpa using h)];rfl
def WW {s:Server} {d:an} {v:aD} (h:eB s d.key=1) (hv:ja s.ar d=some v) {j:Nat} (hj:j<2):ab (jy s d) j={bW with kind:=5,aY:=s.site,to:=2-2*ct s.site+(j:Int),ar:=[v]}:=by
 unfold jy;rw[if_pos (by simpa using h),hv];match j,hj with
 |0,_=>show _={bW with kind:=5,aY:=s.site,to:=2-2*ct s.site+(0:Int),ar:=[v]};rw[Int.add_zero];rfl
 |1,_=>rfl
def Nt {s:Server} (h:bA s) {d:an} (hd:d∈s.aE):∃v,ja s.ar d=some v/\v.key=d.key/\v∈s.ar:=by
 obtain⟨x,hx,e⟩:=h.ni d hd;have hp:=EG.2 ⟨x,hx,e⟩;obtain⟨h1,h2⟩:=xN hp;refine⟨ab s.ar (placeOf s.ar d).toNat,by unfold ja;rw[if_pos hp],congrArg an.key h2,bB h1⟩
def lr (s:Server) (i:Nat):List an:=((s.waits.take i).map aD.aS).flatten.foldl (lq s) []
def ir (s:Server) (i j:Nat):List an:=((ab s.waits i).aS.take j).foldl (lq s) (lr s i)
def wo {s:Server} {i j:Nat} (h:j<(ab s.waits i).aS.length):ir s i (j+1)=lq s (ir s i j) (ab (ab s.waits i).aS j):=by
 unfold ir;rw[dO h,List.foldl_append];rfl
def FB {s:Server} {i j:Nat} (h:i<s.waits.length) (hj:(ab s.waits i).aS.length<=j):ir s i j=lr s (i+1):=by
 unfold ir lr;rw[List.take_of_length_le hj,dO h,List.map_append,List.flatten_append,List.foldl_append];simp
def FC (s:Server) {i:Nat} (h:s.waits.length<=i):lr s i=yv s:=by unfold lr yv;rw[List.take_of_length_le h]
def WX (s:Server) (l:List an) (d:an):(lq s l d).length<=l.length+1:=by unfold lq;split<;>simp
def Nu (s:Server):∀(l asked:List an),(l.foldl (lq s) asked).length<=asked.length+l.length
 |[],asked=>by simp
 |d::r,asked=>by have:=Nu s r (lq s asked d);have:=WX s asked d;simp only[List.foldl_cons,List.length_cons];omega
def yy (s:Server) (i j:Nat):(ir s i j).length<=(lr s i).length+j:=by
 have h1:=Nu s ((ab s.waits i).aS.take j) (lr s i);have h2:((ab s.waits i).aS.take j).length<=j:=by simp;omega
 unfold ir;omega
def wq {s:Server} (h:∀v∈s.waits,v.aS.length<=6):∀i,i<=s.waits.length->(lr s i).length<=6*i
 |0,_=>by simp[lr]
 |i+1,hi=>by
  have h1:=wq h i om;have h2:=yy s i (ab s.waits i).aS.length;have h3:=h _ (bB (l:=s.waits) (k:=i) om);rw[<-FB om (Nat.le_refl _)];omega
def Nv {s:Server} {l:List an} {d:an} (h:(!mC s d&&decide (gh l d<0))=false):lq s l d=l:=by
 unfold lq;rw[if_pos];rw[Bool.or_eq_true,decide_eq_true_eq];rw[Bool.and_eq_false_iff,Bool.not_eq_false',decide_eq_false_iff_not] at h;rcases h with h|h
 .exact .inl h
 exact .inr om
def Bx {s:Server} {l:List an} {d:an} (h:(!mC s d&&decide (gh l d<0))=true):lq s l d=l++[d]:=by
 unfold lq;rw[if_neg];rw[Bool.or_eq_true,decide_eq_true_eq];rw[Bool.and_eq_true,Bool.not_eq_true',decide_eq_true_eq] at h;rw[h.1];simp;omega
def Nw {s:Server} {k:Nat} (h:k=3):mK s k=g7 s 0:=by subst h;simp[g7]
def Nx {s:Server} {k j:Nat} {v:aD} (bX:eB s (ab s.aE k).key=1) (hv:ja s.ar (ab s.aE k)=some v) (hj:j<2):g7 s k++(jy s (ab s.aE k)).take j++[{bW with kind:=5,aY:=s.site,to:=2-2*ct s.site+(j:Int),ar:=[v]}]=g7 s k++(jy s (ab s.aE k)).take (j+1):=by
 rw[List.append_assoc,<-WW bX hv hj,<-dO (by rw[WV bX];exact hj)]
def Ny {s:Server} {k j:Nat} (hk:k<s.aE.length) (hj:2<=j):g7 s k++(jy s (ab s.aE k)).take j=g7 s (k+1):=by
 rw[Bw hk,List.take_of_length_le (by have:=Nr s (ab s.aE k);omega)]
def WY {s:Server} {k:Nat} {v:aD} (hk:k<s.aE.length) (yz:v.key=(ab s.aE k).key) (h:¬(ab s.aN (gS v.key).toNat).eH=1):g7 s k=g7 s (k+1):=by
 rw[Bw hk,Ns (by unfold eB;rw[<-yz];exact h),List.append_nil]
def WZ {s:Server} {k:Nat} (hk:k<s.aE.length) (h:fw s (ab s.aE k).key=false) (hb:cY (ab s.aE k).key=true):g7 s k=g7 s (k+1):=by
 unfold fw at h;rw[hb,Bool.true_and] at h;rw[Bw hk,Ns (by simpa using h),List.append_nil]
def Call.wu (q:Call) (n:Value):AV:=.agg [AV.int q.aA,AV.int q.num,AV.int q.kind,gJ q.keys,AV.int q.val,bf q.ctx,AV.int q.bq,AV.int q.end_,AV.bool q.over,AV.int q.ax.time,AV.int q.ax.site,nL q.az,.val n]
def W1 (q:Call) (m:aw) {j:Nat} (hj:j<2):ab (jn q m) j={m with aY:=10+q.aA,to:=2*q.aA+(j:Int),call:=q.num}:=by
 match j,hj with
 |0,_=>show _={m with aY:=10+q.aA,to:=2*q.aA+(0:Int),call:=q.num};rw[Int.add_zero];rfl
 |1,_=>rfl
def Nz (q:Call) (m:aw) {j:Nat} (hj:j<2):(jn q m).take j++[{m with aY:=10+q.aA,to:=2*q.aA+(j:Int),call:=q.num}]=(jn q m).take (j+1):=by
 rw[<-W1 q m hj,<-dO hj]
def tW (key:Int):aw:={bW with kind:=3,key:=key}
def nA (q:Call) (k:Nat):List aw:=(((q.keys.take k).filter λk=>decide (cE q k<0)).map λkey=>jn q (tW key)).flatten
def NA {q:Call} {k:Nat} (h:k<q.keys.length) (hg:cE q (ab q.keys k)<0):nA q k++jn q (tW (ab q.keys k))=nA q (k+1):=by
 unfold nA;rw[lP h (by simpa using hg),List.map_append,List.flatten_append];simp
def NB {q:Call} {k:Nat} (h:k<q.keys.length) (hg:¬cE q (ab q.keys k)<0):nA q k=nA q (k+1):=by
 unfold nA;rw[lQ h (by simpa using hg)]
def FD (q:Call):∀k,k<=q.keys.length->(nA q k).length<=2*k
 |0,_=>by simp[nA]
 |k+1,h=>by
  have ih:=FD q k om;by_cases hg:cE q (ab q.keys k)<0
  .rw[<-NA om hg,List.length_append];show _+2<=_;omega
  rw[<-NB om hg];omega
def dQ.yA {q:Call} {t:Int} (h:dQ q t) (ht:0<=t):0<=q.end_/\q.end_<=t:=by
 by_cases he:q.end_=0
 .omega
 have:=h.ended he;have:=h.bq;omega
def lV (q:Call):Nat->List an
 |0=>q.aL
 |k+1=>lV q k++mJ (eL q) (ab q.az k)
def NC (q:Call):∀k,k<=q.az.length->lV q k=q.aL++((q.az.take k).map (mJ (eL q))).flatten
 |0,_=>by simp[lV]
 |k+1,h=>by
  show lV q k++_=_;rw[NC q k om,dO om,List.map_append,List.flatten_append,List.append_assoc];simp
def FE {q:Call} {k:Nat} (h:k<q.az.length):lV q (k+1)=lV q k++mJ (eL q) (ab q.az k):=rfl
def W2 {q:Call} {k:Nat} (h:k<q.az.length) (hl:c8 (ab q.az k).bF.ax (cv (eL q) (ab q.az k).key)=true):lV q k++[⟨(ab q.az k).key,cv (eL q) (ab q.az k).key⟩]=lV q (k+1):=by
 rw[FE h];unfold mJ;rw[if_pos hl]
def W3 {q:Call} {k:Nat} (h:k<q.az.length) (hl:¬c8 (ab q.az k).bF.ax (cv (eL q) (ab q.az k).key)=true):lV q k=lV q (k+1):=by
 rw[FE h];unfold mJ;rw[if_neg hl,List.append_nil]
def ND (q:Call):∀k,k<=q.az.length->(lV q k).length<=q.aL.length+k
 |0,_=>by simp[lV]
 |k+1,h=>by
  have ih:=ND q k om;rw[FE om,List.length_append];have:(mJ (eL q) (ab q.az k)).length<=1:=by unfold mJ;split<;>simp
  omega
def W4 {q:Call} {k:Nat} (hk:k<=q.az.length) (h:q.az.length<=k):lV q k=q.aL++ka q:=by rw[NC q k hk];unfold ka;rw[List.take_of_length_le h]
def nB (q:Call) (a:Answer) (k:Nat):List Answer:=if a.bF.bG∈q.aL.take k then q.az.set (cE q a.key).toNat a else q.az
def FF {α:Type} [Inhabited α] {l:List α} {k:Nat} {x:α} (h:k<l.length):x∈l.take (k+1)↔x∈l.take k\/x=ab l k:=by rw[dO h];simp
def W5 {q:Call} {a:Answer} {k:Nat} (h:k<q.aL.length) (he:ab q.aL k=a.bF.bG):nB q a (k+1)=q.az.set (cE q a.key).toNat a:=by
 unfold nB;rw[if_pos ((FF h).2 (.inr he.symm))]
def W6 {q:Call} {a:Answer} {k:Nat} (h:k<q.aL.length) (he:ab q.aL k≠a.bF.bG):nB q a k=nB q a (k+1):=by
 unfold nB;by_cases hm:a.bF.bG∈q.aL.take k
 .rw[if_pos hm,if_pos ((FF h).2 (.inl hm))]
 rw[if_neg hm,if_neg λhh=>((FF h).1 hh).elim hm λe=>he e.symm]
def W7 {q:Call} {a:Answer} {k:Nat} (hd:bP q.aL=true) (h:k<q.aL.length) (he:ab q.aL k=a.bF.bG):nB q a k=q.az:=by
 unfold nB;rw[if_neg];intro hm;obtain⟨i,hi,e⟩:=List.getElem_of_mem hm;have nJ:i<k/\i<q.aL.length:=by simp at hi;omega
 rw[List.getElem_take] at e;have e2:ab q.aL i=a.bF.bG:=by rw[<-e];simp[ab,nJ.2]
 have:=xJ hd nJ.1 h;rw[e2,he] at this;omega
def NF (d:an) (a:Answer) (h:a.bF.key=a.key):((d.key==a.key)&&([d.ax.time,d.ax.site]==[a.bF.ax.time,a.bF.ax.site]))=decide (d=a.bF.bG):=by
 obtain⟨k,⟨t,s⟩⟩:=d;obtain⟨ak,ay,av⟩:=a;obtain⟨vk,⟨vt,vs⟩,vv,vc,vca,vd⟩:=av;obtain rfl:vk=ak:=h;rw[Bool.eq_iff_iff];simp[aD.bG]
def oB (q:Call) (k:Nat):List an:=((q.az.take k).filter λa=>!dW (cv (eL q) a.key)&&my a (cv (eL q) a.key)).map λa=>⟨a.key,cv (eL q) a.key⟩
def W8 {q:Call} {k:Nat} (h:k<q.az.length) (hp:(!dW (cv (eL q) (ab q.az k).key)&&my (ab q.az k) (cv (eL q) (ab q.az k).key))=true):oB q k++[⟨(ab q.az k).key,cv (eL q) (ab q.az k).key⟩]=oB q (k+1):=by
 unfold oB;rw[lP h (by simpa using hp),List.map_append];rfl
def W9 {q:Call} {k:Nat} (h:k<q.az.length) (hp:(!dW (cv (eL q) (ab q.az k).key)&&my (ab q.az k) (cv (eL q) (ab q.az k).key))=false):oB q k=oB q (k+1):=by
 unfold oB;rw[lQ h (by simpa using hp)]
def Xa (q:Call) (k:Nat):(oB q k).length<=q.az.length:=by
 unfold oB;rw[List.length_map];exact Nat.le_trans (List.length_filter_le ..) (by rw[List.length_take];omega)
def Xb {q:Call} {t0:Int} (h:dQ q t0) {a:Answer} (hk:a.bF.bG∈q.aL) (he:a.bF.key=a.key):q.aL.filter (λd=>!decide (d.key=a.key))=q.aL.filter λd=>decide (d≠a.bF.bG):=by
 apply List.filter_congr;intro d hd;by_cases e:d.key=a.key
 .have:d=a.bF.bG:=Ng h.aL hd hk (e.trans he.symm);rw[decide_eq_true e,this];simp
 rw[decide_eq_false e];have:d≠a.bF.bG:=λe2=>e (by rw[e2];exact he);rw[decide_eq_true this];rfl
def Xc (q:Call) (n:Value):
 Fn prog 228 [q.wu n] (AV.bool (na q)):=by
 refine Fn.go 10 func228 ntmps228 (λW I a U=>?_);refine td λI a w U=>?_;refine U.rt ?_;rfl
def Xd (l:List aD):
 Fn prog 158 [bV l] (AV.fn 240 [AV.ptr [bV l]]):=by
 refine Fn.go 4 func158 ntmps158 (λW I a U=>?_);refine zt ?_;refine U.o (uQ .tt (by first|exact fi rfl|exact dD|exact fB|exact fE)) λU=>?_;refine ao λI a w U=>?_;refine U.o (mb (ai .tt aB)) λU=>?_;refine bk ?_;rfl
abbrev qZ (l:List aD) (I0:Im):={x:Nat×Value//x.1<l.length/\(ab l x.1).av.h I0 x.2}
def si {l:List aD} {I0:Im} (xs:List (qZ l I0)):Prop:=∀j x,xs[j]?=some x->x.1.1+1+j=l.length
def yB {l:List aD} {d:an} (h:decide (placeOf l d<0)=false):0<=placeOf l d/\placeOf l d<l.length/\ja l d=some (ab l (placeOf l d).toNat):=by
 have hp:0<=placeOf l d:=by simpa using h
 have ha:ja l d=some (ab l (placeOf l d).toNat):=by unfold ja;rw[if_pos hp]
 refine⟨hp,?_,ha⟩;have:=(xN hp).1;omega
def NG (s:Server) (m:aw) (v:aD):(v.key==m.key&&v.aA==m.aY-10&&v.call==m.call&&!(ct v.ax.site !=ct s.site))=oc s m.key (m.aY-10) m.call v:=by unfold oc;simp[bne]
def Xe {a b c:Bool} (h:(a&&c)=true) (k:b=true):(a&&b&&c)=true:=by rw[Bool.and_right_comm,h,k];rfl
def NH {s:Server} {m:aw} (h:(m.kind==5&&(cQ m.aY&&(ct m.aY !=ct s.site)))=true):m.kind=5/\(cQ m.aY&&(ct m.aY !=ct s.site))=true:=by
 rw[Bool.and_eq_true,beq_iff_eq] at h;exact h
def Xf {l:List an} {d:an} {k:Nat} (h:l.Pairwise λa b=>a≠b) (hk:k<l.length) (e:ab l k=d):l.filter (λx=>!decide (x=d))=l.take k++l.drop (k+1):=by
 have e1:l=l.take k++d::l.drop (k+1):=by rw[<-e,<-j0 hk,List.take_append_drop]
 have hp:=h;rw[e1,List.pairwise_append,List.pairwise_cons] at hp;conv=>lhs;rw[e1]
 rw[List.filter_append,List.filter_cons_of_neg bt,List.filter_eq_self.2 λx hx=>(by simpa using hp.2.2 x hx d bt),List.filter_eq_self.2 λx hx=>(by simpa usingλe=>hp.2.1.1 x hx e.symm)]
def By {e:Ev} (h:((e.call==2)&&decide (e.a<e.b))=false):lU e=[e.a]:=by
 unfold lU;rw[if_neg];simpa using h
def Bz {e:Ev} (h:((e.call==2)&&decide (e.a<e.b))=true) (h2:¬e.b<e.c):lU e=[e.a,e.b]:=by
 unfold lU;rw[if_pos (by simpa using h),if_neg h2]
def BA {e:Ev} (h:((e.call==2)&&decide (e.a<e.b))=true) (h2:e.b<e.c):lU e=[e.a,e.b,e.c]:=by
 unfold lU;rw[if_pos (by simpa using h),if_pos h2]
def Xg (e:Ev):
 Fn prog 305 [e.av] (gJ (lU e)):=by
 refine Fn.go 33 func305 ntmps305 (λW I a U=>?_);refine bj λI a w U=>?_;refine U.z7 (gH:=[[AV.int e.a]]) rfl cG cB rfl ix rfl rfl rfl (aT.c rfl rfl .tt (by first|exact fi rfl|exact dD|exact fB|exact fE) aT.nil) rfl rfl (by simp only[List.forall_mem_cons];exact⟨rfl,λ_ h=>by simp at h⟩) rfl λb6 I a w U=>?_;refine Ac λI a w U=>?_;refine U.cd (λae=>?_) λae=>?_
 .refine bc λI a w U=>?_;refine U.o (.li [[AV.int e.b]] ix (.v .nil)) λU=>?_;refine U.append 0 rfl cG cB rfl .tt .r rfl bt λBf a w U=>?_;refine iU λI a w U=>?_;refine cz (λah=>?_) λah=>?_
  .refine bc λI a w U=>?_;refine U.o (.li [[AV.int e.c]] ix (.v .nil)) λU=>?_;refine U.append 0 rfl cG cB rfl .tt .r rfl bt λv31 a w U=>?_;refine aM λI a w U=>?_;obtain⟨I,U⟩:=U.fr 0 2;refine U.rt ?_;exact(by rw[BA ae ah];rfl)
  refine aq λI a w U=>?_;obtain⟨I,U⟩:=U.fr 0 2;refine U.rt ?_;exact(by rw[Bz ae (by simpa using ah)];rfl)
 refine aq λI a w U=>?_;obtain⟨I,U⟩:=U.fr 0 2;refine U.rt ?_;exact(by rw[By ae];rfl)
def cr.NI {w:aJ} (h:cr w) {i:Nat} (hi:i<2):(ab w.seen i).length<=6:=dY (h.od _ (bB (by rw[h.seen];exact hi)))
def aJ.full (b:Nat) (x:aJ) (s r q z:Value):List Own:=[Own.box b 28 [AV.int x.time,AV.val s,AV.val r,AV.val q,AV.val z],Own.row s 95 7 (x.aC.map Server.cells),Own.row r 108 15 (x.au.map aw.cells),Own.row q 45 13 (x.calls.map Call.cells),Own.row z 40 1 (x.seen.map du)]
def NJ {l:List an} {d:an} (h:bP l=true) (hd:gU d=true):bP (fR l d)=true:=wc h hd
def oC (l:List aD):Prop:=l.length<=81/\∀u∈l,u.aS.length<=6
def FG {l:List aD} (h:bY l=true):oC l:=⟨by have:=fV h;omega,λu hu=>dY (jL (gP h u hu)).2.2⟩
def NK {l:List aD} (h:bY l=true) (v:aD):bY (if fW l v then ej l v else l)=true:=by
 split
 .rename_i hc;unfold fW at hc;simp only[Bool.and_eq_true,decide_eq_true_eq] at hc;exact xT h hc.1.1 hc.1.2 hc.2
 exact h
def NL (m:aw):Prop:=m.aS.length<=7/\oC m.ar/\oC m.waits/\m.aE.length<=7
def gp:oC []:=⟨Nat.zero_le _,λ_ h=>by cases h⟩
end Go.Proofs.YtldbakcpcfdlaaaGreat
