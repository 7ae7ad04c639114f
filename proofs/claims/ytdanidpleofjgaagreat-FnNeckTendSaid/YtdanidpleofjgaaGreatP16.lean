/- Part 16: contracts of functions, plain facts. -/
import Derived.Test.YtdanidpleofjgaaGreatP12
import Derived.Test.YtdanidpleofjgaaGreatP14
set_option linter.all false
set_option maxRecDepth 100000
set_option maxHeartbeats 4000000
namespace Go.Proofs.YtdanidpleofjgaaGreat
open Go Go.RowKit Tryz
attribute [local irreducible] wpList Code.wp Ok
def H5 (l:List ao):
 Fn prog 107 [bw l] (AV.bool (fY l)):=by
 refine Fn.go 40 func107 ntmps107 (λW I a U=>?_);have hle:=U.dE (t:=0) rfl;refine aY λI a w U=>?_;refine St.lo (σ:=Nat) (run 3 2 (run 30 7 [])) ⟨λk=>[(7,AV.int k)],λk=>[],λk=>k<=l.length/\∀i,i<k->(eQ lf ee l) i=true⟩ (λk=>l.length-k) 0 U ?aL ?bG;case aL=>exact⟨by simp,λi hi=>by omega⟩
 rintro k I a w al U;obtain⟨hk,aT⟩:=al;refine ax λI a w U=>?_;refine cz (λae=>?_) λae=>?_
 .refine aV λI a w U=>?_;refine U.alloc rfl cE fh λb4 I a w U=>?_;refine aB λI a w U=>?_;obtain⟨I,U⟩:=U.fb 0 4;refine U.dk ?_;refine cj ?_;refine .o (.c1 (A6 ..)) ?_;refine dM ?_;refine .q .F (.cl (yN ..)) ?_;refine AR ?_;refine .q .T2 (.cl (DQ ..)) ?_;refine dJ ?_;refine .nil ?_;intro I a w U;refine bk ?_;refine U.cd (λah=>?_) λah=>?_
  .rw[Hl] at ah;replace ah:=nt ah;refine bc ?_;exact bF (by unfold fY;rw[fN (f:=(eQ lf ee l)) ae ah];simp)
  rw[Hl] at ah;replace ah:=nf ah;refine aB λI a w U=>?_;have U:=U.drop 0;exact U.ag (k+1) (⟨by omega,gO aT ah⟩)
 refine zt ?_;refine aY λI a w U=>?_;refine U.rt ?_;exact bF (by unfold fY;rw[fJ aT om,Bool.and_true];simp;try omega)
def Zs (s:Server) (key:Int) (hk:df key=true) (hl:s.aF.length=3):
 Fn prog 153 [s.av,AV.int key] (AV.bool (dU s key !=0)):=by
 refine Fn.go 13 func153 ntmps153 (λW I a U=>?_);have hr:=qI hk;refine aB λI a w U=>?_;refine U.dk ?_;refine dJ ?_;refine .o (.c1 (uJ ..)) ?_;refine fD ?_;refine .nil ?_;intro I a w U;refine zt ?_;refine U.rt ?_;rfl
def H6 (a b d:cw):dA (dA a b) d=dA a (dA b d):=HH λx=>by simp only[DL,Bool.or_assoc]
def Zt (a b:cw):dA a b=dA b a:=HH λx=>by simp only[DL];rw[Bool.or_comm]
def Br {s:cw} (h:s=fK\/dr s=true):dA s fK=s:=by rw[Zt,pS h]
def Bs:∀{l:List ao} {last:Int} {d:ao} (key:Int),dH last l=true->dr d.ar=true->bL (eS l d) key=if d.key=key then dA (bL l key) d.ar else bL l key
 |[],last,d,key,_,U=>by
  unfold eS;rw[lq];split
  .show d.ar=dA fK d.ar;rw[pS (Or.inr U)]
  rfl
 |e::r,last,d,key,h,U=>by
  have h':=h;simp only[dH,Bool.and_eq_true] at h;unfold eS;split
  .rename_i hk;rw[lq,lq];have e1:(if ck e.ar d.ar=true then d else e).key=e.key:=by split<;>simp[hk]
   rw[e1,hk];split
   .unfold dA;split<;>rfl
   rfl
  rename_i hk;split
  .rename_i bK;rw[lq];split
   .rename_i iH;have:bL (e::r) key=fK:=by
     have hd:dH d.key (e::r)=true:=by
      simp only[dH,Bool.and_eq_true];refine⟨⟨?_,h.1.2⟩,h.2⟩;have:=h.1.1;simp[aS] at this⊢;omega
     exact yK hd om
    rw[this,pS (Or.inr U)]
   rfl
  rename_i bK;rw[lq,lq,Bs key h.2 U];by_cases jV:e.key=key
  .rw[if_pos jV,if_pos jV,if_neg om]
  rw[if_neg jV,if_neg jV]
def y8 {a:Answer} (h:dF a=true) (hy:a.yes=true):iP a.bm.bh=true/\a.bm.bh=⟨a.key,a.bm.ar⟩:=by
 have h1:=qK h hy;have h2:=jv h1.1;refine⟨by simp[iP,aE.bh,h2.1,h2.2.1],?_⟩;rw[<-h1.2];rfl
def j7:List Answer->Int->cw
 |[],_=>fK
 |a::r,key=>dA (bL a.bm.aR key) (j7 r key)
def Bt:∀{l:List Answer},(∀a∈l,dF a=true)->∀key,tD (tE l key)
 |[],_,_=>Or.inl rfl
 |a::r,h,key=>by
  refine O9 ?_ (Bt (l:=r) (λb hb=>h b (by simp[hb])) key);split
  .rename_i hy;exact Or.inr (jv (qK (h a bt) hy.1).1).2.1
  exact Or.inl rfl
def P6 (s:Server) (l:List aE) (hl:s.aF.length=3) (hc:bY l=true):
 Fn prog 93 [s.av,bQ l] (AV.bool (de l.length (pe s l))):=by
 refine Fn.go 20 func93 ntmps93 (λW I a U=>?_);have hle:=U.dE (t:=1) rfl;refine aN λI a w U=>?_;refine St.lo (σ:=Nat) (run 16 4 []) ⟨λk=>[(5,AV.int k)],λk=>[],λk=>k<=l.length/\∀i,i<k->(pe s l) i=true⟩ (λk=>l.length-k) 0 U ?aL ?bG;case aL=>exact⟨Nat.zero_le _,λi hi=>by omega⟩
 rintro k I a w al U;obtain⟨rV,aT⟩:=al;refine aY λI a w U=>?_;refine cz (λae=>?_) λae=>?_
 .refine zt ?_;refine U.dk ?_;refine gZ ?_;refine .o (.c2 (Zs _ _ (qH (uP hc ae)) hl)) ?_;refine aX ?_;refine .nil ?_;intro I a w U;refine bk ?_;refine U.cd (λah=>?_) λah=>?_
  .replace ah:=nt ah;refine bc ?_;exact bF (fN (f:=pe s l) ae ah).symm
  replace ah:=nf ah;refine aN λI a w U=>?_;exact U.ag (k+1) (⟨by omega,gO aT ah⟩)
 refine zt ?_;refine bc ?_;exact bF (fJ aT om).symm
def P7 {l:List aE} (h:bY l=true):VS l:=by
 unfold bY at h;rw[Bool.and_eq_true,js] at h;refine Pb (R:=λa b=>gu a b=true) (λh1 h2=>yW h1 h2) λi h0 hi=>?_;have:=h.2 i hi;unfold eQ at this;rw[Bool.and_eq_true,Bool.or_eq_true,decide_eq_true_eq] at this;rcases this.2 with h3|h3
 .omega
 exact h3
def lr.zero (l:List aE) (v:aE):lr l v 0 false []:=⟨Nat.zero_le _,by simp,by simp⟩
def mJ.zero (l:List ao) (v:ao):mJ l v 0 false []:=⟨Nat.zero_le _,by simp,by simp⟩
def gi (s:Server) (slot:Int):az:=
 {cn with kind:=9,aU:=s.site,to:=fj s.site,slot:=slot,bf:=(ab s.aF slot.toNat).bf,an:=s.an.filter (eC slot),waits:=s.waits.filter (eC slot),aD:=s.aD.filter (gh slot)}
def iV (s:Server) (m:az):List az:=
 if aS m.aU 10 11&&decide (1<=m.call)&&gf s m.key then
  if dX m.ar then[mM s m (fq s.an m.key)]
  else match iI s.an ⟨m.key,m.ar⟩ with
   |some v=>[mM s m (some v)]
   |none=>[]
 else[]
def l8 (s:Server) (m:az):Server:=
 if cO m.aU&&(bP m.aU !=bP s.site)&&decide (0<=fG s.aD ⟨m.key,m.ar⟩)&&(dU s m.key==1) then
  {s with aD:=s.aD.take (fG s.aD ⟨m.key,m.ar⟩).toNat++s.aD.drop ((fG s.aD ⟨m.key,m.ar⟩).toNat+1)}
 else s
def nz (s:Server) (m:az):List az:=if(iI s.an ⟨m.key,m.ar⟩).isSome&&(m.aU==fj s.site) then[mN s m] else[]
def j8 (s:Server) (d:ao):List az:=
 if dU s d.key==1 then[{cn with kind:=5,aU:=s.site,to:=2-2*bP s.site,an:=(iI s.an d).toList},{cn with kind:=5,aU:=s.site,to:=2-2*bP s.site+1,an:=(iI s.an d).toList}] else[]
def eG (s:Server) (slot:Int):Server×az×Bool:=if l5 s slot then(kO s slot,gi (kO s slot) slot,true) else(s,cn,false)
def jH (q:Call):List az:=if gP q then((asks q).map (jS q)).flatten else[]
def j9 (q:Call):List ao:=(q.aA.map (ni (fy q))).flatten
def mV (q:Call) (a:Answer) (time:Int):Call:=
 let x:={q with aA:=c7 q.aA a}
 if x.aA.length<x.keys.length then x else lO {x with aO:=x.aO++j9 x} time
def jI (q:Call) (m:az) (time:Int):Call:=
 if m.kind=4/\(m.yes=true->m.an.length=1/\(ab m.an 0).key=m.key) then
  if cB q m.key<0 then(if dX m.ar then mV q (dK m) time else q)
  else if m.yes then mP q (dK m) time else q
 else q
def tK (l:List aE) (h:l.length<=1048576) (hd:∀y∈l,y.aR.length<=1048576):
 Fn prog 135 [bQ l] (bQ l):=by
 refine Fn.go 21 func135 ntmps135 (λW I a U=>?_);have hle:=U.dE (t:=0) rfl;refine ax λI a w U=>?_;refine U.l0 λb5 I a w U=>?_;refine aB λI a w U=>?_;refine St.lo (σ:=Nat×Value) (run 2 3 (run 14 6 [])) ⟨λ⟨k,v⟩=>[(4,AV.int k),(3,AV.val v)],λ⟨k,v⟩=>[Own.row v 62 7 ((l.take k).map aE.cells)],λ⟨k,v⟩=>k<=l.length⟩ (λ⟨k,v⟩=>l.length-k) (0,.slice (some ⟨b5,0,none⟩) 0 0) U ?aL ?bG;case aL=>exact Nat.zero_le _
 rintro⟨k,v⟩ I a w al U;have hk:k<=l.length:=al;dsimp only at U;refine aY λI a w U=>?_;refine cz (λae=>?_) λae=>?_
 .refine bO λI a w U=>?_;refine U.o (.c1 (lN (ab l k) (hd _ (bB ae)))) λU=>?_;refine U.o (.li [(ab l k).cells] ju (.u .nil)) λU=>?_;refine U.ap 0 λlP a w U=>?_;rw[bV,<-ez ae] at U;refine aY λI a w U=>?_;exact U.ag (k+1,lP) (ae)
 refine zt ?_;refine aB λI a w U=>?_;obtain⟨I,U⟩:=U.fr 0 2;refine U.rt ?_;exact congrArg (AV.rows 7) (by rw[List.take_of_length_le om])
def H7 (m:az) (h:jU m):
 Fn prog 134 [m.av] (m.av):=by
 refine Fn.go 22 func134 ntmps134 (λW I a U=>?_);obtain⟨h1,⟨h2,h3⟩,⟨h4,h5⟩,h6⟩:=h;refine sr<|U.box rfl .tt λb1 I a w U=>U.alloc rfl dj dN λb2 I a w U=>?_;refine zt ?_;refine U.l0 λb3 I a w U=>?_;refine aH λI a w U=>?_;refine U.ap 2 λv6 a w U=>?_;obtain⟨I,U⟩:=U.fr 2 6;refine bz λI a w U=>?_;refine U.o (.cl (tK m.an h2 h3)) λU=>?_;refine bz λI a w U=>?_;refine U.o (.cl (tK m.waits h4 h5)) λU=>?_;refine aB λI a w U=>?_;refine U.l0 λy9 I a w U=>?_;refine aH λI a w U=>?_;refine U.ap 3 λlP a w U=>?_;obtain⟨I,U⟩:=U.fr 3 19;refine aY λI a w U=>?_;refine U.ret rfl (.cons (.sx 1) ba.nil) ?_;rfl
def H8 (l:List az) (h:l.length<=1048576) (hd:∀y∈l,jU y):
 Fn prog 83 [cQ l] (cQ l):=by
 refine Fn.go 21 func83 ntmps83 (λW I a U=>?_);have hle:=U.dE (t:=0) rfl;refine ax λI a w U=>?_;refine U.l0 λb5 I a w U=>?_;refine aB λI a w U=>?_;refine St.lo (σ:=Nat×Value) (run 2 3 (run 14 6 [])) ⟨λ⟨k,v⟩=>[(4,AV.int k),(3,AV.val v)],λ⟨k,v⟩=>[Own.row v 84 15 ((l.take k).map az.cells)],λ⟨k,v⟩=>k<=l.length⟩ (λ⟨k,v⟩=>l.length-k) (0,.slice (some ⟨b5,0,none⟩) 0 0) U ?aL ?bG;case aL=>exact Nat.zero_le _
 rintro⟨k,v⟩ I a w al U;have hk:k<=l.length:=al;dsimp only at U;refine aY λI a w U=>?_;refine cz (λae=>?_) λae=>?_
 .refine bO λI a w U=>?_;refine U.o (.c1 (H7 (ab l k) (hd _ (bB ae)))) λU=>?_;refine U.o (.li [(ab l k).cells] gw (.u .nil)) λU=>?_;refine U.ap 0 λlP a w U=>?_;rw[bV,<-ez ae] at U;refine aY λI a w U=>?_;exact U.ag (k+1,lP) (ae)
 refine zt ?_;refine aB λI a w U=>?_;obtain⟨I,U⟩:=U.fr 0 2;refine U.rt ?_;exact congrArg (AV.rows 15) (by rw[List.take_of_length_le om])
def H9 {s:Server} (h:gQ s=true):eM s:=by
 obtain⟨h1,h2,h3,h4,h5,h6⟩:=Bc h;refine⟨h1,h2,h3,λv hv=>?_,iR h5⟩;simp only[gQ,Bool.and_eq_true] at h;obtain⟨k,hk,rfl⟩:=g7 hv;have:=(js.1 h.1.2) k hk;simp only[sf,tz,Bool.and_eq_true,decide_eq_true_eq] at this;exact this.2
def D6 {s:Server} (h:bH s) {i:Nat} (hi:i<3):qG (ab s.aF i)=true:=h.bD _ (bB (by rw[h.aF];exact hi))
def za {s:Server} {slot:Int} (h:bH s) (hk:l5 s slot=true):bH (kO s slot):=by
 obtain⟨_,h1,h2,h3,h4⟩:=uT hk;have hg:=wL.1 (D6 h (i:=slot.toNat) om);refine h.Pg h1 ?_ (λv _ _=>by simp) (λv _ _=>by simp) om;rw[wL];exact⟨by simp;omega,by simp;omega,by simp,by simp,λ_=>by simp;omega⟩
def P8 {n:Int} (h:cO n=true):cO (fj n)=true:=by
 rw[lK] at*;unfold fj;split<;>omega
def P9 {s:Server} {m:az} (h:bH s) (hm:bM m=true) {st:cw} (U:dr st=true):bM (mL s m st)=true:=by
 have p:=ny hm;exact tp ⟨by simp[mL],by simp[mL]⟩ (pN h.site) p.2.1 p.2.2.2.1 p.2.2.2.2.1 (Bm U) ⟨by simp[mL,cn],by simp[mL,cn]⟩ rZ ⟨by simp[mL,cn],by simp[mL,cn]⟩ ⟨by simp[mL,cn],by simp[mL,cn]⟩ pO pO wC
def Bu {l:List aE} {d:ao} {v:aE} (h:iI l d=some v):v∈l/\v.bh=d:=by
 unfold iI at h;split at h
 .rename_i hp;obtain⟨h1,h2⟩:=Bf hp;cases h;exact⟨bB h1,h2⟩
 cases h
def Zu {s:Server} {m:az} (h:bH s) (hm:bM m=true):∀w∈nz s m,bM w=true:=by
 have p:=ny hm;unfold nz;split
 .intro w hw;obtain rfl:w=_:=by simpa using hw
  exact tp ⟨by simp[mN],by simp[mN]⟩ (pN h.site) p.2.1 ⟨by simp[mN,cn],by simp[mN,cn]⟩ p.2.2.2.2.1 p.2.2.2.2.2.1 ⟨by simp[mN,cn],by simp[mN,cn]⟩ rZ ⟨by simp[mN,cn],by simp[mN,cn]⟩ ⟨by simp[mN,cn],by simp[mN,cn]⟩ pO pO wC
 intro w hw;simp at hw
def Zv {s:Server} (h:bH s) {i:Nat} (hi:i<3):0<=(ab s.aF i).bf/\(ab s.aF i).bf<=9999:=by
 have:=wL.1 (D6 h hi);exact⟨this.1,this.2.1⟩
def Zw {s:Server} (h:bH s) {i:Nat} (hi:i∈leaving s):i<3:=by
 have:=List.mem_range.1 (qP hi);rw[h.aF] at this;exact this
def Qa {l:List Answer} (h:l.Pairwise λa b=>gR a b=true) {i j:Nat} (hi:i<l.length) (hj:j<l.length) (he:(ab l i).key=(ab l j).key):i=j:=by
 rcases Nat.lt_trichotomy i j with bK|h'|bK
 .have:=Bk h bK hj;unfold gR at this;rw[decide_eq_true_eq] at this;omega
 .exact h'
 have:=Bk h bK hi;unfold gR at this;rw[decide_eq_true_eq] at this;omega
def Ia:∀{l:List Answer} {a:Answer},(l.Pairwise λa b=>gR a b=true)->(∀x∈l,x.key≠a.key)->(c7 l a).Pairwise λa b=>gR a b=true
 |[],a,_,_=>by simp[c7]
 |e::r,a,h,hn=>by
  unfold c7;rw[List.pairwise_cons] at h;have he:=hn e bt;split
  .rename_i hl;rw[List.pairwise_cons];refine⟨λx hx=>?_,List.pairwise_cons.2 h⟩;rcases List.mem_cons.1 hx with rfl|hx
   .unfold gR;rw[decide_eq_true_eq];exact hl
   have:=h.1 x hx;unfold gR at*;rw[decide_eq_true_eq] at*;omega
  rename_i hl;rw[List.pairwise_cons];refine⟨λx hx=>?_,Ia h.2 λx hx=>hn x (by simp[hx])⟩;rcases r7.1 hx with rfl|hx
  .unfold gR;rw[decide_eq_true_eq];omega
  exact h.1 x hx
def Qb {q:Call} {d:ao} (h:d∈j9 q):∃a∈q.aA,d=⟨a.key,bL (fy q) a.key⟩/\ck a.bm.ar d.ar=true:=by
 unfold j9 at h;obtain⟨ds,h1,h2⟩:=List.mem_flatten.1 h;obtain⟨a,ha,rfl⟩:=List.mem_map.1 h1;unfold ni at h2;split at h2
 .rename_i hl;obtain rfl:d=_:=by simpa using h2
  exact⟨a,ha,rfl,hl⟩
 simp at h2
def qS {l:List Call} {aq:Int} (h:0<=cA l aq):(cA l aq).toNat<l.length/\(ab l (cA l aq).toNat).aq=aq/\gP (ab l (cA l aq).toNat)=true:=by
 unfold cA dm at*;split at h
 .rename_i k hk;obtain⟨h1,h2,_⟩:=List.findIdx?_eq_some_iff_getElem.1 hk;have e:l[k]=ab l k:=by simp[ab,h1]
  rw[e] at h2;simp only[uI,Bool.and_eq_true,beq_iff_eq] at h2;refine⟨by simpa using h1,by simpa using h2.1.1,?_⟩;unfold gP;simp[h2.1.2,h2.2]
 omega
def pg (s:Server) (k:Nat):List az:=(tm s k).map λi:Nat=>gi s (i:Int)
def Ib (s:Server) (k:Nat):(pg s k).length<=k:=by unfold pg;rw[List.length_map];exact Yd s k
def iW (s:Server) (k:Nat):List az:=pg s 3++((s.aD.take k).map (j8 s)).flatten
def D7 {s:Server} {k:Nat} (h:k<s.aD.length):iW s (k+1)=iW s k++j8 s (ab s.aD k):=by
 unfold iW;rw[ez h,List.map_append,List.flatten_append,List.append_assoc];simp
def Qc (s:Server) (d:ao):(j8 s d).length<=2:=by unfold j8;split<;>simp
def l9 (w:aI) (σ:Nat) (D:List ao):Prop:=∀d∈D,∃u,cF w σ u/\u.bh=d/\uO u.aR D
def cF.cases {w:aI} {i:Nat} {v:aE} (h:cF w (i/2) v):v∈(sv w i).an\/v∈(sv w (cv i)).an:=by
 obtain⟨j,_,e,hv⟩:=h;rcases Yz e with rfl|rfl
 .exact .inl hv
 exact .inr hv
def Ic {w:aI} {i:Nat} (hi:i<w.aw.length):dL w i (sv w i)=w:=by
 unfold dL sv;have e:w.aw.set i (ab w.aw i)=w.aw:=by
  apply List.ext_getElem
  .simp
  intro n h1 h2;rw[List.getElem_set];split
  .rename_i e;subst e;simp[ab,h2]
  rfl
 rw[e]
def uZ {v:aE} (h:ef v=true):vk v<3:=by have:=Pr (jv h).1;unfold vk;omega
def Qd {v:aE} (h:ef v=true) {slot:Int} (h0:0<=slot):vk v=slot.toNat↔cW v.key=slot:=by have:=Pr (jv h).1;unfold vk;omega
def Zx {l:List aE} (h:VS l):l.Pairwise λa b=>a.bh≠b.bh:=h.imp λ{a b} hl e=>by
 unfold gu at hl;rw[e,Be] at hl;cases hl
def Zy {l:List aE} (hl:VS l) {key:Int} {v u:aE} (h:fq l key=some v) (hu:u∈l) (hk:u.key=key):ck v.ar u.ar=false:=by
 have hv:=A3 h;unfold fq at h;rw[List.find?_eq_some_iff_append] at h;obtain⟨_,Zz,bs,e,hn⟩:=h;have e2:l=bs.reverse++v::Zz.reverse:=by
  have:=congrArg List.reverse e;simpa using this
 have tL:u=v\/u∈bs:=by
  rw[e2] at hu;rcases List.mem_append.1 hu with hu|hu
  .exact .inr (List.mem_reverse.1 hu)
  rcases List.mem_cons.1 hu with hu|hu
  .exact .inl hu
  have:=hn u (List.mem_reverse.1 hu);simp[qE,hk] at this
 rcases tL with rfl|tL
 .simp[ck]
 unfold VS at hl;rw[e2,List.pairwise_append] at hl;have:=hl.2.2 u (List.mem_reverse.2 tL) v bt;unfold gu ee aE.bh at this;rw[hk,hv.2] at this;simp at this;exact DR this
def Qe {v:aE} (h:ef v=true):ck v.ar fK=false:=O4 (tC (jv h).2.1)
def Ie (a b:cw):ck (dA a b) a=false:=by
 unfold dA;split
 .rename_i h;exact DR h
 exact Bp a
def ZA {l:List ao} {d:ao} (h:bN l=true) (hd:dr d.ar=true):uO l (eS l d):=λkey=>by
 rw[Bs key h hd];split
 .exact Ie _ _
 exact Bp _
def ZB {l:List Answer} {key:Int}:j7 l key=fK\/∃b∈l,bL b.bm.aR key=j7 l key:=by
 induction l with
 |nil=>exact .inl rfl
 |cons b r ih=>
  show dA (bL b.bm.aR key) (j7 r key)=fK\/∃x∈b::r,_=dA (bL b.bm.aR key) (j7 r key)
  unfold dA
  split
  .rcases ih with ih|⟨x,hx,e⟩
   .exact .inl ih
   exact .inr ⟨x,List.mem_cons_of_mem _ hx,e⟩
  exact .inr ⟨b,List.mem_cons_self ..,rfl⟩
def ZC {s:Server} {slot:Int} (h0:0<=slot) (be:(ab s.aF slot.toNat).dy=2):yM s (gi s slot):=by
 refine⟨?_,λv=>?_,λv=>?_,λd=>?_⟩
 .show ab s.aF slot.toNat=⟨(ab s.aF slot.toNat).bf,2⟩;rw[<-be]
 .show v∈s.an.filter (eC slot)↔v∈s.an/\cW v.key=slot;rw[List.mem_filter];simp[eC]
 .show v∈s.waits.filter (eC slot)↔v∈s.waits/\cW v.key=slot;rw[List.mem_filter];simp[eC]
 show d∈s.aD.filter (gh slot)↔d∈s.aD/\cW d.key=slot;rw[List.mem_filter];simp[gh]
def g8:qC []:=⟨Nat.zero_le _,λ_ h=>by cases h⟩
def P0 (s:cw):
 Fn prog 116 [s.av] (AV.bool (ld s)):=by
 refine Fn.go 9 func116 ntmps116 (λW I a U=>?_);refine aV λI a w U=>?_;refine U.o (.c1 (wA ..)) λU=>?_;refine aH λI a w U=>?_;refine U.q .F (.cl (yN ..)) λU=>?_;refine di ?_;rfl
def sj (l:List aE) (key:Int) (st:cw):
 Fn prog 94 [bQ l,AV.int key,st.av] (AV.db [((j6 l ⟨key,st⟩).getD default).av,AV.bool (j6 l ⟨key,st⟩).isSome]):=by
 refine Fn.go 41 func94 ntmps94 (λW I a U=>?_);have hle:=U.dE (t:=0) rfl;refine bA λI a w U=>?_;refine U.alloc rfl bU dR λb6 I a w U=>?_;refine aH λI a w U=>?_;refine U.o (.cl (tv ..)) λU=>?_;refine ax λI a w U=>?_;refine U.cd (λae=>?_) λae=>?_
 .replace ae:=nt ae;refine zt ?_;refine U.o (.bd dR aW.nil) λU=>?_;refine aB λI a w U=>?_;refine U.ret rfl (.cons (.sx 0) (.cons (.t rfl) ba.nil)) ?_;exact(by rw[YZ ae];rfl)
 replace ae:=nf ae;refine ax λI a w U=>?_;refine St.lo (σ:=Nat) (run 2 7 (run 27 13 [])) ⟨λk=>[(8,AV.int k)],λk=>[Own.box b6 62 [AV.val (.int .i64 0),AV.val (.int .i64 0),AV.val (.int .i64 0),AV.val (.int .i64 0),AV.val (.int .i64 0),AV.val (.int .i64 0),AV.rows 3 []]],λk=>k<=l.length/\∀i,i<k->nh ⟨key,st⟩ (ab l i)=false⟩ (λk=>l.length-k) 0 U ?aL ?bG;case aL=>exact⟨Nat.zero_le _,λi hi=>by omega⟩
 rintro k I a w al U;obtain⟨hk,aT⟩:=al;refine aY λI a w U=>?_;refine cz (λah=>?_) λah=>?_
 .refine zt ?_;refine U.dk ?_;refine tk ?_;refine .q .T (mq [_,_] [_,_] mD rfl rfl .ag .ag) ?_;refine aX ?_;refine .nil ?_;intro I a w U;refine bk ?_;refine U.cd (λaj=>?_) λaj=>?_
  .rw[Pv] at aj;refine bz λI a w U=>?_;refine U.o (cr (lN _ (by have:=YW (uP ae ah);omega)) (ai (.t rfl) aC)) λU=>?_;refine aB λI a w U=>?_;refine U.ret rfl (.cons (.sx 0) (.cons (.t rfl) ba.nil)) ?_;exact(by rw[YX ae ah aT aj];rfl)
  rw[Pv] at aj;refine aN λI a w U=>?_;exact U.ag (k+1) (⟨ah,λi h1=>by rcases Nat.lt_succ_iff_lt_or_eq.1 h1 with h|h;exact aT i h;rw[h];exact aj⟩)
 refine zt ?_;refine U.o (.bd dR aW.nil) λU=>?_;refine aB λI a w U=>?_;refine U.ret rfl (.cons (.sx 0) (.cons (.t rfl) ba.nil)) ?_;exact(by rw[YY om aT];rfl)
def D3 {l:List cw} (h:∀s∈l,dr s=true) (k:Nat):0<=oY (l.take k)/\oY (l.take k)<=9999:=HK om om λs U=>h s (List.mem_of_mem_take U)
def Zi (n:Int) (l:List cw) (hn:cO n=true) (hl:∀s∈l,dr s=true):
 Fn prog 222 [AV.int n,AV.rows 2 (l.map cw.cells)] (AV.db [(qD n l).av,AV.bool (jG l)]):=by
 refine Fn.go 44 func222 ntmps222 (λW I a U=>?_);have hle:=U.dE (t:=1) rfl;refine sr<|U.alloc rfl jF ic λb4 I a w U=>?_;refine aH λI a w U=>?_;refine U.o (.c1 (rS ..)) λU=>?_;refine ax λI a w U=>?_;refine U.cd (λae=>?_) λae=>?_
 .exfalso;rw[hn] at ae;cases ae;skip
 refine aB λI a w U=>?_;refine St.lo (σ:=Nat) (run 3 5 (run 25 12 [])) ⟨λk=>[(7,AV.int k),(6,AV.int (oY (l.take k)))],λk=>[Own.box b4 50 [AV.val (.int .i64 0),AV.val (.int .i64 0)]],λk=>k<=l.length⟩ (λk=>l.length-k) 0 U ?aL ?bG;case aL=>exact Nat.zero_le _
 rintro k I a w al U;have hk:k<=l.length:=al;refine aY λI a w U=>?_;refine cz (λah=>?_) λah=>?_
 .refine bz λI a w U=>?_;refine U.o (.c1 (wv ..)) λU=>?_;refine ax λI a w U=>?_;refine U.cd (λaj=>?_) λaj=>?_
  .exfalso;simp only[B] at aj;rw[hl _ (bB ah)] at aj;cases aj;skip
  refine jf λI a w U=>?_;refine cz (λaJ=>?_) λaJ=>?_
  .refine mA λI a w U=>?_;refine U.again (k+1) ?ij ?ik dD ?il (by repeat(first|exact Env.le_rfl|refine Env.hP rfl ?_));case ij=>omega
   case ik=>exact ah
   case il=>exact(Env.dq rfl dD (Env.dq rfl (by first|exact congrArg AV.int (by rw[A2 ah,if_pos aJ])|exact congrArg AV.int (by rw[A2 ah,if_neg om])) Env.le_nil))
  refine aN λI a w U=>?_;refine U.again (k+1) ?mR ?mS dD ?mT (by repeat(first|exact Env.le_rfl|refine Env.hP rfl ?_));case mR=>omega
  case mS=>exact ah
  case mT=>exact(Env.dq rfl dD (Env.dq rfl (by first|exact congrArg AV.int (by rw[A2 ah,if_pos aJ])|exact congrArg AV.int (by rw[A2 ah,if_neg om])) Env.le_nil))
 refine zt ?_;refine aB λI a w U=>?_;refine cz (λaP=>?_) λaP=>?_
 .refine zt ?_;refine U.o (.bd ic aW.nil) λU=>?_;refine aB λI a w U=>?_;rw[List.take_of_length_le om] at aP;refine U.ret rfl (.cons (.sx 0) (.cons (.t rfl) ba.nil)) ?_;have e:jG l=false:=by unfold jG;simp;omega
  exact(by unfold qD;rw[e];rfl)
 refine bA λI a w U=>?_;refine U.o (lz .tt .c (λ_=>by have:=D3 hl k;omega)) λU=>?_;refine U.m λU=>?_;refine U.o (.bd ic (.k (.k aW.nil))) λU=>?_;refine aB λI a w U=>?_;rw[List.take_of_length_le om] at aP;refine U.ret rfl (.cons (.sx 0) (.cons (.t rfl) ba.nil)) ?_;have e:jG l=true:=by unfold jG;simp;omega
 exact(by unfold qD;rw[e,List.take_of_length_le om];rfl)
def P1 (s:Server) (d:ao) (hc:bY s.an=true):
 Fn prog 194 [s.av,d.av] (AV.bool (l6 s d)):=by
 refine Fn.go 25 func194 ntmps194 (λW I a U=>?_);refine wj λI a w U=>?_;refine U.o (.cl (sj ..)) λU=>?_;refine aV λI a w U=>?_;refine U.alloc rfl bU dR λb5 I a w U=>?_;refine U.sb 0 λU=>?_;obtain⟨I,U⟩:=U.fb 0 5;refine dI λI a w U=>?_;refine U.q .F (.cl (Bj ..)) λU=>?_;refine tj ?_;exact bF (by unfold l6;rw[yV hc])
def Zj (s:Server) (v:aE) (hc:bY s.an=true):
 Fn prog 240 [s.av,v.av] (AV.bool (Bh s v)):=by
 refine Fn.go 21 func240 ntmps240 (λW I a U=>?_);have lens:v.aR.length<=9223372036854775807:=U.ln 1 6;refine aY λI a w U=>?_;refine St.lo (σ:=Nat) (run 17 4 []) ⟨λk=>[(5,AV.int k)],λk=>[],λk=>k<=v.aR.length/\∀i,i<k->(λi=>l6 s (ab v.aR i)) i=true⟩ (λk=>v.aR.length-k) 0 U ?aL ?bG;case aL=>exact⟨Nat.zero_le _,λi hi=>by omega⟩
 rintro k I a w al U;obtain⟨rV,aT⟩:=al;refine ct λI a w U=>?_;refine cz (λae=>?_) λae=>?_
 .refine zt ?_;refine U.dk ?_;refine gZ ?_;refine .o (.c2 (P1 _ _ hc)) ?_;refine aX ?_;refine .nil ?_;intro I a w U;refine bk ?_;refine cz (λah=>?_) λah=>?_
  .refine bc ?_;exact bF (fN (f:=λi=>l6 s (ab v.aR i)) ae ah).symm
  refine aN λI a w U=>?_;exact U.ag (k+1) (⟨by omega,gO aT ah⟩)
 refine zt ?_;refine bc ?_;exact bF (fJ aT om).symm
def Zk {site:Int} {l:List cw} (hn:cO site=true) (hl:∀s∈l,dr s=true) (ho:jG l=true):dr (qD site l)=true/\(qD site l).site=site/\∀s∈l,s.time<(qD site l).time:=by
 have hr:=D3 hl l.length;rw[List.take_length] at hr;have hm:oY l<9999:=by simpa[jG] using ho
 have hle:∀(l:List cw) (t:Int),t<=l.foldl (λt s=>if t<s.time then s.time else t) t/\∀s∈l,s.time<=l.foldl (λt s=>if t<s.time then s.time else t) t:=by
  intro l;induction l with
  |nil=>intro t;simp
  |cons a r ih=>
   intro t
   rw[List.foldl_cons]
   have h1:=ih (if t<a.time then a.time else t)
   have h2:t<=(if t<a.time then a.time else t)/\a.time<=(if t<a.time then a.time else t):=by split<;>omega
   refine⟨by omega,λs U=>?_⟩
   rcases List.mem_cons.1 U with rfl|U
   .omega
   exact h1.2 s U
 unfold qD;rw[ho,if_pos rfl];refine⟨by simp[dr,aS,hn];omega,rfl,λs U=>?_⟩;have:=(hle l 0).2 s U;show s.time<oY l+1;unfold oY;omega
def Zl {n:Int} (h:cO n=true):rQ n 1=fj n:=by
 have:=lK.1 h;obtain rfl|rfl|rfl|rfl:n=0\/n=1\/n=2\/n=3:=by omega
 all_goals rfl
def HX (n:Int) (h:cO n=true):
 Fn prog 208 [AV.int n] (AV.int (fj n)):=by
 refine Fn.go 5 func208 ntmps208 (λW I a U=>?_);refine aH λI a w U=>?_;refine U.o (Nk .tt .c (λ_=>by have:=lK.1 h;omega)) λU=>?_;refine bc ?_;exact fM (Zl h)
def Zm {l:List aE} {v:aE} (hv:ef v=true) (hl:l.length<80):(if gH l v then eE l v else l)=gS l v:=by
 unfold gH gS;rw[hv];by_cases hp:placeOf l v.bh<0
 .simp[hp,hl]
 simp[hp]
def Zn (q:Call) (a:Answer) (k:Nat):(pK q a k).length<=q.aO.length:=rX _ _ _
def Zo {bs:List UInt8} {k:Int} (h0:0<=k) (h1:k<=1099511627776) (hb:bs.length≠0):0<=wK bs k/\wK bs k<4611686018427387904:=by
 have h2:=nj bs (k%bs.length);have h3:=nk bs (k%bs.length);have h4:=nj bs ((k*7+3)%bs.length);have h5:=nk bs ((k*7+3)%bs.length);have h6:=wT (k:=k) (m:=bs.length) h0 om;unfold wK;omega
def cU (br:Nat) (code:List UInt8) (p n:Int) (hp:0<=p/\p<=1099511627775) (hb:code.length<=1099511627776):
 gG prog 41 [AV.val (.pointer (some ⟨br,0,none⟩)),AV.int n] [Own.box br 100 [cg code,AV.int (p)]] [Own.box br 100 [cg code,AV.int (p+1)]] (AV.int (bI code p n)):=by
 refine bT.intro 99 func41 rfl ntmps41 rfl aG (λW I a U=>?_);refine G2 λI a w U=>?_;refine U.cd (λae=>?_) λae=>?_
 .refine ax λI a w U=>?_;refine U.bJ () [0] rfl (.cons (.t rfl) .nil) trivial rfl ?_;exact congrArg AV.int (Yy ae)
 replace ae:=Zg ae;refine AQ λI a w U=>?_;refine cz (λah=>?_) λah=>?_
 .refine fo λI a w U=>?_;refine U.o (Gu aG qA .tt (λ_=>by have y1:=(ab code (p+1-1).toNat).toNat_lt;omega)) λU=>?_;refine U.m λU=>?_;refine U.o (qn .tt .tt (λ_=>by have y1:=(ab code (p+1-1).toNat).toNat_lt;omega)) λU=>?_;refine ax λI a w U=>?_;refine U.bJ () [0] rfl (.cons (.t rfl) .nil) trivial rfl<|congrArg AV.int ?_;unfold bI;rw[if_neg ae,if_pos om,Int.add_sub_cancel];rfl
 refine wp_skip<|bk<|wp_seq<|U.dk ?_;refine lh ?_;refine .o (qn .tt .tt (λ_=>by omega)) ?_;refine .o ((by first|exact dW wo wk .tt .tt (λ_=>by have h9:=Int.emod_nonneg (p+1-1) (show(code.length:Int)≠0 by omega);have h8:=Int.emod_lt_of_pos (p+1-1) (show(0:Int)<code.length by omega);omega)|exact fe wo wk .tt .tt (λ_=>by have h9:=Int.emod_nonneg (p+1-1) (show(code.length:Int)≠0 by omega);have h8:=Int.emod_lt_of_pos (p+1-1) (show(0:Int)<code.length by omega);omega)|exact fm wo wk .tt .tt (λ_=>by have h9:=Int.emod_nonneg (p+1-1) (show(code.length:Int)≠0 by omega);have h8:=Int.emod_lt_of_pos (p+1-1) (show(0:Int)<code.length by omega);omega))) ?_;refine aX ?_;refine .o (Gu aG qA .tt (λ_=>by have y1:=(ab code ((p+1-1)%(code.length:Int)).toNat).toNat_lt;omega)) ?_;refine .o (m6 .tt .c (λ_=>by have y1:=nj code ((p+1-1)%code.length);have y2:=nk code ((p+1-1)%code.length);have y3:=nj code (((p+1-1)*7+3)%code.length);have y4:=nk code (((p+1-1)*7+3)%code.length);have y5:=wT (k:=p+1-1) (m:=code.length) om om;unfold pP at y1 y2 y3 y4;omega)) ?_;refine fD ?_;refine .o (m6 .tt .c (λ_=>by omega)) ?_;refine gZ ?_;refine .o (qn .tt .tt (λ_=>by omega)) ?_;refine .o ((by first|exact dW wo wk .tt .tt (λ_=>by have h9:=Int.emod_nonneg ((p+1-1)*7+3) (show(code.length:Int)≠0 by omega);have h8:=Int.emod_lt_of_pos ((p+1-1)*7+3) (show(0:Int)<code.length by omega);omega)|exact fe wo wk .tt .tt (λ_=>by have h9:=Int.emod_nonneg ((p+1-1)*7+3) (show(code.length:Int)≠0 by omega);have h8:=Int.emod_lt_of_pos ((p+1-1)*7+3) (show(0:Int)<code.length by omega);omega)|exact fm wo wk .tt .tt (λ_=>by have h9:=Int.emod_nonneg ((p+1-1)*7+3) (show(code.length:Int)≠0 by omega);have h8:=Int.emod_lt_of_pos ((p+1-1)*7+3) (show(0:Int)<code.length by omega);omega))) ?_;refine aX ?_;refine .o (Gu aG qA .tt (λ_=>by have y1:=(ab code (((p+1-1)*7+3)%(code.length:Int)).toNat).toNat_lt;omega)) ?_;refine .o (m6 .tt .c (λ_=>by have y1:=nj code ((p+1-1)%code.length);have y2:=nk code ((p+1-1)%code.length);have y3:=nj code (((p+1-1)*7+3)%code.length);have y4:=nk code (((p+1-1)*7+3)%code.length);have y5:=wT (k:=p+1-1) (m:=code.length) om om;unfold pP at y1 y2 y3 y4;omega)) ?_;refine .o (lz .tt .tt (λ_=>by have y1:=nj code ((p+1-1)%code.length);have y2:=nk code ((p+1-1)%code.length);have y3:=nj code (((p+1-1)*7+3)%code.length);have y4:=nk code (((p+1-1)*7+3)%code.length);have y5:=wT (k:=p+1-1) (m:=code.length) om om;unfold pP at y1 y2 y3 y4;omega)) ?_;refine aX ?_;refine .o (m6 .tt .c (λ_=>by omega)) ?_;refine .o (lz .tt .tt (λ_=>by have y1:=nj code ((p+1-1)%code.length);have y2:=nk code ((p+1-1)%code.length);have y3:=nj code (((p+1-1)*7+3)%code.length);have y4:=nk code (((p+1-1)*7+3)%code.length);have y5:=wT (k:=p+1-1) (m:=code.length) om om;unfold pP at y1 y2 y3 y4;omega)) ?_;refine gZ ?_;refine .o (vR .tt .tt (λ_=>by omega)) ?_;refine .o (m6 .tt .c (λ_=>by have y1:=nj code ((p+1-1)%code.length);have y2:=nk code ((p+1-1)%code.length);have y3:=nj code (((p+1-1)*7+3)%code.length);have y4:=nk code (((p+1-1)*7+3)%code.length);have y5:=wT (k:=p+1-1) (m:=code.length) om om;unfold pP at y1 y2 y3 y4;omega)) ?_;refine .o (lz .tt .tt (λ_=>by have y1:=nj code ((p+1-1)%code.length);have y2:=nk code ((p+1-1)%code.length);have y3:=nj code (((p+1-1)*7+3)%code.length);have y4:=nk code (((p+1-1)*7+3)%code.length);have y5:=wT (k:=p+1-1) (m:=code.length) om om;unfold pP at y1 y2 y3 y4;omega)) ?_;refine aX ?_;refine .nil ?_;intro I a w U;have uC:=Zo (bs:=code) (k:=p) hp.1 om om;rw[Int.add_sub_cancel] at U;change St _ _ _ ((6,AV.int (wK code p))::_) _ _ at U;generalize hX:wK code p=X at U uC;refine aH λI a w U=>?_;refine U.o (vR .tt .c (λ_=>by omega)) λU=>?_;refine U.o (Nk .tt .tt (λ_=>by omega)) λU=>?_;refine aV λI a w U=>?_;refine U.o (qn .tt .tt (λ_=>by have:=Ni (m:=X) (n:=X/64);have:=Nj (m:=X) (n:=X/64) om om;omega)) λU=>?_;refine ax λI a w U=>?_;refine U.bJ () [0] rfl (.cons (.t rfl) .nil) trivial rfl<|congrArg AV.int ?_;unfold bI;rw[if_neg ae,if_neg om,hX]
def eh (br:Nat) (code:List UInt8) (p n:Int) (hp:0<=p/\p<=1099511627775) (hb:code.length<=1099511627776):bT prog 41 [AV.val (.pointer (some ⟨br,0,none⟩)),AV.int n] [Own.box br 100 [cg code,AV.int (p)]] (λr:Int×Int=>0<=r.1/\(0<n->r.1<n)/\r.2=p+1) (λr=>[Own.box br 100 [cg code,AV.int (r.2)]]) (λr=>AV.int r.1):=
 bT.conv (cU br code p n hp hb) λ_ _=>⟨(bI code p n,p+1),⟨ig code p n,λh=>(g0 code p h).2,rfl⟩,rfl,rfl⟩
def Bq (br:Nat) (code:List UInt8) (p:Int) (hp:0<=p/\p<=1099511000000) (aQ:code.length<=1099511627776):
 bT prog 82 [AV.val (.pointer (some ⟨br,0,none⟩))] [Own.box br 100 [cg code,AV.int (p)]] (λr:cw×Int=>p<=r.2/\r.2<=p+4) (λr=>[Own.box br 100 [cg code,AV.int (r.2)]]) (λr=>r.1.av):=by
 refine bT.intro 29 func82 rfl ntmps82 rfl aG (λW I a U=>?_);refine sr<|U.alloc rfl jF ic λb2 I a w U=>?_;refine bA λI a w U=>?_;refine U.bq [0] (eh br code (p) (5) om aQ) (ai .tt (ai .c aC)) rfl aM rfl λ⟨x5,q5⟩ I a w HY U=>?_;replace HY:0<=x5/\(0<(5:Int)->x5<(5))/\q5=p+1:=HY;obtain⟨lo5,hi5,rfl⟩:=HY;have U:=U.nf;refine aH λI a w U=>?_;refine U.bq [0] (eh br code (p+1) (4) om aQ) (ai .tt (ai .c aC)) rfl aM rfl λ⟨x8,q8⟩ I a w qQ U=>?_;replace qQ:0<=x8/\(0<(4:Int)->x8<(4))/\q8=p+1+1:=qQ;obtain⟨lo8,hi8,rfl⟩:=qQ;have U:=U.nf;refine U.o (.bd ic (.k (.k aW.nil))) λU=>?_;refine U.alloc rfl jF ic λb3 I a w U=>?_;refine aH λI a w U=>?_;refine U.bq [0] (eh br code (p+1+1) (20) om aQ) (ai .tt (ai .c aC)) rfl aM rfl λ⟨P2,Zp⟩ I a w wU U=>?_;replace wU:0<=P2/\(0<(20:Int)->P2<(20))/\Zp=p+1+1+1:=wU;obtain⟨amg,amh,rfl⟩:=wU;have U:=U.nf;refine aB λI a w U=>?_;refine cz (λae=>?_) λae=>?_
 .refine St.region ?_;refine U.o (.li (([-1,0,9999,10000]:List Int).map jr) iO (.v (.v (.v (.v .nil))))) λU=>?_;refine U.m λU=>?_;refine U.bq [0] (eh br code (p+1+1+1) (4) om aQ) (ai .tt (ai .c aC)) rfl aM rfl λ⟨HZ,Zq⟩ I a w pY U=>?_;replace pY:0<=HZ/\(0<(4:Int)->HZ<(4))/\Zq=p+1+1+1+1:=pY;obtain⟨ami,amj,rfl⟩:=pY;have U:=U.nf;refine U.o ((by first|exact dW cH cx .tt .tt (λ_=>by simp only[List.length_map,List.length_cons,List.length_nil];omega)|exact fe cH cx .tt .tt (λ_=>by simp only[List.length_map,List.length_cons,List.length_nil];omega)|exact fm cH cx .tt .tt (λ_=>by simp only[List.length_map,List.length_cons,List.length_nil];omega))) λU=>?_;refine ct λI a w U=>?_;refine U.bJ (⟨ab ([-1,0,9999,10000]:List Int) HZ.toNat,x8⟩,p+1+1+1+1) [0] rfl (.cons (.sx 1) .nil) (by dsimp only;omega) rfl rfl
 refine aB λI a w U=>?_;refine cz (λah=>?_) λah=>?_
 .refine St.region ?_;refine U.o (.li (([-1,4]:List Int).map jr) iO (.v (.v .nil))) λU=>?_;refine U.m λU=>?_;refine U.bq [0] (eh br code (p+1+1+1) (2) om aQ) (ai .tt (ai .c aC)) rfl aM rfl λ⟨qR,Zr⟩ I a w wV U=>?_;replace wV:0<=qR/\(0<(2:Int)->qR<(2))/\Zr=p+1+1+1+1:=wV;obtain⟨P3,P4,rfl⟩:=wV;have U:=U.nf;refine U.o ((by first|exact dW cH cx .tt .tt (λ_=>by simp only[List.length_map,List.length_cons,List.length_nil];omega)|exact fe cH cx .tt .tt (λ_=>by simp only[List.length_map,List.length_cons,List.length_nil];omega)|exact fm cH cx .tt .tt (λ_=>by simp only[List.length_map,List.length_cons,List.length_nil];omega))) λU=>?_;refine ct λI a w U=>?_;refine U.bJ (⟨1+x5,ab ([-1,4]:List Int) qR.toNat⟩,p+1+1+1+1) [0] rfl (.cons (.sx 1) .nil) (by dsimp only;omega) rfl rfl
 refine aB λI a w U=>?_;refine U.bJ (⟨1+x5,x8⟩,p+1+1+1) [0] rfl (.cons (.sx 1) .nil) (by dsimp only;omega) rfl rfl
def P5 (br:Nat) (code:List UInt8) (p:Int) (hp:0<=p/\p<=1099511000000) (aQ:code.length<=1099511627776):
 bT prog 132 [AV.val (.pointer (some ⟨br,0,none⟩))] [Own.box br 100 [cg code,AV.int (p)]] (λr:ao×Int=>iP r.1=true/\r.2=p+3) (λr=>[Own.box br 100 [cg code,AV.int (r.2)]]) (λr=>r.1.av):=by
 refine bT.intro 12 func132 rfl ntmps132 rfl aG (λW I a U=>?_);refine sr<|U.alloc rfl cE fh λb2 I a w U=>?_;refine bA λI a w U=>?_;refine U.bq [0] (eh br code (p) (6) om aQ) (ai .tt (ai .c aC)) rfl aM rfl λ⟨x4,q4⟩ I a w H4 U=>?_;replace H4:0<=x4/\(0<(6:Int)->x4<(6))/\q4=p+1:=H4;obtain⟨lo4,hi4,rfl⟩:=H4;have U:=U.nf;refine U.m λU=>?_;refine U.bq [0] (eh br code (p+1) (5) om aQ) (ai .tt (ai .c aC)) rfl aM rfl λ⟨x6,q6⟩ I a w uY U=>?_;replace uY:0<=x6/\(0<(5:Int)->x6<(5))/\q6=p+1+1:=uY;obtain⟨lo6,hi6,rfl⟩:=uY;have U:=U.nf;refine aH λI a w U=>?_;refine U.bq [0] (eh br code (p+1+1) (4) om aQ) (ai .tt (ai .c aC)) rfl aM rfl λ⟨x9,q9⟩ I a w mU U=>?_;replace mU:0<=x9/\(0<(4:Int)->x9<(4))/\q9=p+1+1+1:=mU;obtain⟨D4,D5,rfl⟩:=mU;have U:=U.nf;refine U.o (.bd ic (.k (.k aW.nil))) λU=>?_;refine U.o (.bd fh (.k (.t aW.nil))) λU=>?_;refine ax λI a w U=>?_;have hd:iP ⟨x4,⟨1+x6,x9⟩⟩=true:=by simp[iP,df,dr,cO,aS];omega
 refine U.bJ (⟨x4,⟨1+x6,x9⟩⟩,p+1+1+1) [0] rfl (.cons (.sx 1) .nil) ⟨hd,by dsimp only;omega⟩ rfl rfl
end Go.Proofs.YtdanidpleofjgaaGreat
