/- Part 18: contracts of functions, plain facts. -/
import Derived.Test.YtdanidpleofjgaaGreatP13
import Derived.Test.YtdanidpleofjgaaGreatP14
set_option linter.all false
set_option maxRecDepth 100000
set_option maxHeartbeats 4000000
namespace Go.Proofs.YtdanidpleofjgaaGreat
open Go Go.RowKit Tryz
attribute [local irreducible] wpList Code.wp Ok
def Rs (l:List (aE)) (p:(aE)->Bool) (fv:AV) (hf:∀x:aE,x∈l->kV prog fv [x.av] (AV.bool (p x))):
 Fn prog 259 [cn l,fv] (AV.bool (hasB p l)):=by
 refine Fn.go 9 func259 ntmps259 (λW I a U=>?_);refine bm λI a w U=>?_;refine U.o (.cl (Ja _ _ _ hf)) λU=>?_;refine dG ?_;rfl
def abH (v:aE) (d:au):
 Fn prog 168 [v.av,AV.ptr d.cells] (AV.bool (lY d v)):=by
 refine Fn.go 8 func168 ntmps168 (λW I a U=>?_);refine aF λI a w U=>?_;refine U.dk ?_;refine bJ ?_;refine .o (.c1 (oa ..)) ?_;refine bJ ?_;refine .o (nj [_,_,_] [_,_,_] yN rfl rfl .tt .tt) ?_;refine bJ ?_;refine .nil ?_;intro I a w U;refine zt ?_;refine U.rt ?_;exact bP (ZZ d v)
def rF (l:List aE) (d:au):
 Fn prog 110 [cn l,d.av] (AV.int (placeOf l d)):=by
 refine Fn.go 8 func110 ntmps110 (λW I a U=>?_);refine bm λI a w U=>?_;refine U.o (oD (az .tt aI)) λU=>?_;refine U.o (.cl (Ja l (lY d) _ (λv _=>Fn.val (abH v d)))) λU=>?_;refine bh ?_;rfl
def abI (d:au) (l:List aE):
 Fn prog 170 [d.av,AV.ptr [cn l]] (AV.bool (missing l d)):=by
 refine Fn.go 8 func170 ntmps170 (λW I a U=>?_);refine bB λI a w U=>?_;refine U.o (.cl (rF ..)) λU=>?_;refine dG ?_;rfl
def ij (s:Server):Bool:=tZ s&&de s.aw.length (sR s)&&de s.ai.length (ua s)&&de s.waits.length (sS s)&&yZ s.ai s.aD
def Rt:∀{l:List au} {last:Int},eb last l=true->∀{i j:Nat},i<j->j<l.length->(ab l i).key<(ab l j).key
 |[],_,_,i,j,_,hj=>by simp at hj
 |e::r,last,h,0,j+1,_,hj=>by
  simp only[eb,Bool.and_eq_true] at h;have tC:j<r.length:=by simpa using hj
  exact(Iy h.2 _ (bf tC)).1
 |e::r,last,h,i+1,j+1,j9,hj=>by
  simp only[eb,Bool.and_eq_true] at h;exact Rt h.2 (i:=i) (j:=j) om (by simpa using hj)
def B6 {l:List au} (h:bU l=true) {i j:Nat} (j9:i<j) (hj:j<l.length):(ab l i).key<(ab l j).key:=Rt h j9 hj
section
variable {l:List au} {d:au} {k:Nat} {out:List au} {done:Bool}
def lB.same (hp:lB l d k done out) (hl:bU l=true) (h:k<l.length) (he:(ab l k).key=d.key):done=false/\lB l d (k+1) true (out++[if bV (ab l k).aq d.aq then d else ab l k]):=by
 have hd:done=false:=by
  cases done
  .rfl
  have:=hp.late rfl k (Nat.le_refl _) h;omega
 subst hd;refine⟨rfl,h,?_,λ_ i hi ld=>?_,by have:=hp.len;simp at this⊢;omega⟩
 .have:=hp.eq;rw[mh h] at this;simp only[gq,if_pos he] at this;rw[this];simp
 rw[<-he];exact B6 hl om ld
def lB.before (hp:lB l d k false out) (hl:bU l=true) (h:k<l.length) (he:d.key<(ab l k).key):lB l d (k+1) true ((out++[d])++[ab l k]):=by
 refine⟨h,?_,λ_ i hi ld=>?_,by have:=hp.len;simp at this⊢;omega⟩
 .have:=hp.eq;rw[mh h] at this;simp only[gq,if_neg (show¬(ab l k).key=d.key by omega),if_pos he] at this;rw[this];simp
 have:=B6 hl (i:=k) (j:=i) om ld;omega
def lB.step (hp:lB l d k done out) (h:k<l.length) (he:(ab l k).key≠d.key) (hn:done=false->(ab l k).key<=d.key):lB l d (k+1) done (out++[ab l k]):=by
 refine⟨h,?_,λhd i hi ld=>hp.late hd i om ld,by have:=hp.len;simp;omega⟩;have:=hp.eq;cases done
 .rw[mh h] at this;have:=hn rfl;simp_all only[gq];simp;omega
 simp only[if_true] at this⊢;rw[this,mh h];simp
def lB.um (hp:lB l d k true out) (h:l.length<=k):out=gq l d:=by
 have:=hp.eq;rw[List.drop_eq_nil_of_le h] at this;simpa using this.symm
def lB.uq (hp:lB l d k false out) (h:l.length<=k):out++[d]=gq l d:=by
 have:=hp.eq;rw[List.drop_eq_nil_of_le h] at this;simpa[gq] using this.symm
end
def Jz {α:Type} [Inhabited α] {p:α->Bool} {l:List α} (h:hasB p l=true):∃x∈l,p x=true:=by
 simp only[hasB,decide_eq_true_eq] at h;obtain⟨k,hk,hp⟩:=Iw h;exact⟨_,bf hk,hp⟩
def od {l:List Int} {n:Int}:ib l n=true↔n∈l:=by
 constructor
 .intro h;obtain⟨x,hx,he⟩:=Jz h;simp[vh] at he;exact he▸hx
 exactλh=>Ec h (by simp[vh])
def abJ {c:Call} (h:lj c.keys=true) (i:Nat):vi c i=pL c i:=by
 unfold vi pL;cases h1:fl (λa=>ib c.keys a.key) gW c.aC i
 .simp
 have h2:ib c.keys (ab c.aC i).key=true:=by unfold fl at h1;rw[Bool.and_eq_true] at h1;exact h1.1
 have:=y6 h (od.1 h2);unfold w6 dT;cases(ab c.aC i).yes<;>simp[this]
def JA {c:Call} (hk:lj c.keys=true) (h:nX c=true):c.aC.length<=c.keys.length:=
 Ed (f:=Answer.key) (Qp hk) (Qo λi h0 hi=>by
  have:=(jm.1 h) i hi;unfold pL fl at this;simp[gW] at this;have h1:=this.1.2;omega) λa ha=>by
  obtain⟨k,fC,rfl⟩:=gm ha;exact od.1 (IA h fC).2
def B7 {α:Type} [Inhabited α] (p:α->Bool) (l:List α):(!hasB p l)=de l.length λi=>!p (ab l i):=by
 rw[Bool.eq_iff_iff,jm];constructor
 .intro h i hi;simp only[Bool.not_eq_true'] at h⊢;cases hp:p (ab l i)
  .rfl
  rw[Ec (bf hi) hp] at h;cases h
 intro h;simp only[Bool.not_eq_true'];cases hh:hasB p l
 .rfl
 obtain⟨x,hx,hp⟩:=Jz hh;obtain⟨k,hk,rfl⟩:=gm hx;have:=h k hk;rw[hp] at this;cases this
def sX {a:Answer} (h:dT a=true):bU a.bl.aQ=true:=by
 cases hy:a.yes
 .rw[y7 h hy];rfl
 exact(iW (rm h hy).1).2.2
def ur:List Answer->Int->cx
 |[],_=>gn
 |a::r,key=>dJ (if a.yes=true/\a.key=key then a.bl.aq else gn) (ur r key)
def Ru:∀{l:List aE} {v:aE},(∀x∈l,x.aU≠v.aU)->rB l v=fJ l v
 |[],_,_=>rfl
 |x::r,v,h=>by
  have hx:=h x bk;have ih:=Ru (l:=r) (v:=v) λy hy=>h y (by simp[hy]);unfold fJ rB;cases h1:fG v x
  .cases h2:fG x v
   .exact absurd (EM h2 h1) hx
   simp[ih]
  rw[show fG x v=false from aaM h1];simp
def JB:∀{l:List aE} {v:aE},VS l->(∀x∈l,x.aU≠v.aU)->VS (fJ l v)
 |[],v,_,_=>by simp[fJ,VS]
 |x::r,v,h,hd=>by
  unfold VS at h;rw[List.pairwise_cons] at h;unfold fJ;split
  .rename_i bw;unfold VS;rw[List.pairwise_cons];refine⟨λy hy=>?_,JB h.2 λy hy=>hd y (by simp[hy])⟩;rcases gL.1 hy with rfl|hy
   .exact bw
   exact h.1 y hy
  rename_i bw;have h1:fG v x=true:=by
   cases h1:fG v x
   .simp only[Bool.not_eq_true] at bw;exact absurd (EM bw h1) (hd x bk)
   rfl
  unfold VS;rw[List.pairwise_cons,List.pairwise_cons];refine⟨λy hy=>?_,h.1,h.2⟩;rcases List.mem_cons.1 hy with rfl|hy
  .exact h1
  exact zb h1 (h.1 y hy)
section
variable {l:List aE} {v:aE} {k:Nat} {out:List aE} {done:Bool}
def ny.before (hp:ny l v k false out) (h:k<l.length) (he:fG v (ab l k)=true):ny l v (k+1) true ((out++[v])++[ab l k]):=by
 refine⟨h,?_,by have:=hp.len;simp at this⊢;omega⟩;have:=hp.eq;rw[mh h] at this;simp only[rB,if_pos he] at this;rw[this];simp
def ny.step (hp:ny l v k done out) (h:k<l.length) (he:done=true\/fG v (ab l k)=false):ny l v (k+1) done (out++[ab l k]):=by
 refine⟨h,?_,by have:=hp.len;simp;omega⟩;have:=hp.eq;cases done
 .rw[mh h] at this;have he:fG v (ab l k)=false:=he.resolve_left bk;simp only[rB,he] at this;rw[this];simp
 simp only[if_true] at this⊢;rw[this,mh h];simp
def ny.um (hp:ny l v k true out) (h:l.length<=k):out=rB l v:=by
 have:=hp.eq;rw[List.drop_eq_nil_of_le h] at this;simpa using this.symm
def ny.uq (hp:ny l v k false out) (h:l.length<=k):out++[v]=rB l v:=by
 have:=hp.eq;rw[List.drop_eq_nil_of_le h] at this;simpa[rB] using this.symm
end
def Rv {l:List aE} {key:Int} (h:∀i,i<l.length->oR key (ab l i)=false):dV l key=none:=by
 unfold dV;rw[List.find?_eq_none];intro x hx;obtain⟨k,hk,rfl⟩:=gm (List.mem_reverse.1 hx);rw[h k hk];simp
section
variable {l:List au} {v:au} {k:Nat} {out:List au} {done:Bool}
def nA.before (hp:nA l v k false out) (h:k<l.length) (he:eD v (ab l k)=true):nA l v (k+1) true ((out++[v])++[ab l k]):=by
 refine⟨h,?_,by have:=hp.len;simp at this⊢;omega⟩;have:=hp.eq;rw[mh h] at this;simp only[lC,if_pos he] at this;rw[this];simp
def nA.step (hp:nA l v k done out) (h:k<l.length) (he:done=true\/eD v (ab l k)=false):nA l v (k+1) done (out++[ab l k]):=by
 refine⟨h,?_,by have:=hp.len;simp;omega⟩;have:=hp.eq;cases done
 .rw[mh h] at this;have he:eD v (ab l k)=false:=he.resolve_left bk;simp only[lC,he] at this;rw[this];simp
 simp only[if_true] at this⊢;rw[this,mh h];simp
def nA.um (hp:nA l v k true out) (h:l.length<=k):out=lC l v:=by
 have:=hp.eq;rw[List.drop_eq_nil_of_le h] at this;simpa using this.symm
def nA.uq (hp:nA l v k false out) (h:l.length<=k):out++[v]=lC l v:=by
 have:=hp.eq;rw[List.drop_eq_nil_of_le h] at this;simpa[lC] using this.symm
end
def Rw {s:Server} (h:dx s<0):gZ s=s:=by
 unfold gZ;cases s.waits.length with
 |zero=>rfl
 |succ n=>show(if dx s<0 then s else _)=_;rw[if_pos h]
def fS (s:Server) (slot:Int):ax:=
 {bW with kind:=9,aO:=s.site,to:=eX s.site,slot:=slot,ba:=(ab s.aw slot.toNat).ba,ai:=s.ai.filter (eR slot),waits:=s.waits.filter (eR slot),aD:=s.aD.filter (gG slot)}
def eK (s:Server) (m:ax):aE:=⟨m.key,nz s.site (fh s m),m.val,m.aO-10,m.call,m.aQ⟩
def gN (s:Server) (m:ax):List ax:=
 if aH m.aO 10 11&&decide (1<=m.call)&&fq s m.key then
  if dS m.aq then[lM s m (dV s.ai m.key)]
  else match eE s.ai ⟨m.key,m.aq⟩ with
   |some v=>[lM s m (some v)]
   |none=>[]
 else[]
def fL (s:Server) (m:ax):Server×List ax:=
 if sT s m then
  let v:=ab m.ai 0
  if placeOf s.ai v.aU<0/\placeOf s.waits v.aU<0 then
   if ix s.waits v then(dB {s with waits:=fJ s.waits v},[l8 s m v]) else(s,[])
  else(dB s,[l8 s m v])
 else(s,[])
def g8 (s:Server) (m:ax):Server:=
 if(m.aO==eX s.site)&&((ab s.aw m.slot.toNat).bD==2)&&((ab s.aw m.slot.toNat).ba==m.ba) then dB (kg s m) else s
def jt (s:Server) (d:au):List ax:=
 if cM s d.key==1 then[{bW with kind:=5,aO:=s.site,to:=2-2*bM s.site,ai:=(eE s.ai d).toList},{bW with kind:=5,aO:=s.site,to:=2-2*bM s.site+1,ai:=(eE s.ai d).toList}] else[]
def gy (s:Server):List ax:=if s.up then(leaving s).map (λi:Nat=>fS s (i:Int))++(s.aD.map (jt s)).flatten++(uc s).map (mB s) else[]
def eZ (s:Server) (slot:Int):Server×ax×Bool:=if lL s slot then(gV s slot,fS (gV s slot) slot,true) else(s,bW,false)
def eN (w:aj) (e:Ev):aj×Bool:=
 let s:=ab w.aA e.at_.toNat
 if e.kind=7 then({w with aA:=w.aA.set e.at_.toNat (jF s)},!s.up)
 else if e.kind=6 then({w with aA:=w.aA.set e.at_.toNat (ll s)},s.up)
 else if e.kind=8 then({w with al:=eo w.al (gy s)},s.up)
 else if lL s e.slot then({w with aA:=w.aA.set e.at_.toNat (gV s e.slot),al:=eo w.al [fS (gV s e.slot) e.slot]},true) else(w,false)
def Rx (l:List Int) (key:Int):
 Fn prog 148 [jb l,AV.int key] (AV.bool (ib l key)):=by
 refine Fn.go 18 func148 ntmps148 (λW I a U=>?_);have hle:=U.eC (t:=0) rfl;refine aF λI a w U=>?_;refine St.lo (σ:=Nat) (run 14 4 []) ⟨λk=>[(5,AV.int k)],λk=>[],λk=>k<=l.length/\∀i,i<k->vh key (ab l i)=false⟩ (λk=>l.length-k) 0 U ?aJ ?bF;case aJ=>exact⟨Nat.zero_le _,λi hi=>by omega⟩
 rintro k I a w an U;obtain⟨hk,aT⟩:=an;refine aZ λI a w U=>?_;refine cz (λae=>?_) λae=>?_
 .refine iP λI a w U=>?_;refine U.cd (λah=>?_) λah=>?_
  .refine bh ?_;exact bP (Ec (bf ae) ah).symm
  refine aR λI a w U=>?_;exact U.ag (k+1) (⟨by omega,λi h1=>by rcases Nat.lt_succ_iff_lt_or_eq.1 h1 with h|h;exact aT i h;rw[h];exact ah⟩)
 refine zt ?_;refine bh ?_;exact bP (by unfold ib hasB;rw[my om aT];rfl)
def Ry (x:Answer) (s:cx):
 Fn prog 211 [x.av,s.av] (AV.bool (nW x s)):=by
 refine Fn.go 15 func211 ntmps211 (λW I a U=>?_);refine yI λI a w U=>?_;refine U.q .F (.cl (En ..)) λU=>?_;refine dG ?_;rfl
def abK {q:Call} {time:Int} (h:mT q time=true):q.aC.length<=3/\q.aL.length<=6:=by
 simp only[mT,pN,Bool.and_eq_true] at h;have hk:iu q=true:=h.1.1.1.1.1.1.2;have hd:bU q.aL=true:=h.1.1.1.2;have hg:nX q=true:=h.2.1.1;have h3:q.keys.length<=3:=by
  unfold iu at hk;rw[Bool.and_eq_true] at hk;have:=hk.2;simp[aH] at this;omega
 have E2:lj q.keys=true:=by unfold iu at hk;rw[Bool.and_eq_true] at hk;exact hk.1
 have:=JA E2 hg;exact⟨by omega,iE hd⟩
def Rz (u v:aE):
 Fn prog 75 [u.av,v.av] (AV.bool (mS u v)):=by
 refine Fn.go 65 func75 ntmps75 (λW I a U=>?_);have lens:u.aQ.length<=9223372036854775807/\v.aQ.length<=9223372036854775807:=by
  obtain⟨cs,_,hc⟩:=U.env 0 _ rfl;obtain⟨u1,_,h1,_⟩:=hc.get (i:=6) rfl;obtain⟨Y3,_,jZ⟩:=U.env 1 _ rfl;obtain⟨u2,_,h2,_⟩:=jZ.get (i:=6) rfl;exact⟨AX h1,AX h2⟩
 refine wW λI a w U=>?_;refine U.q .F (wH [_,_] [_,_] nU rfl rfl .ag .ag) λU=>?_;refine XM λI a w U=>?_;refine U.cd (λae=>?_) λae=>?_
 .replace ae:vo u v=false:=by unfold vo;rw[ae];rfl
  refine bh ?_;exact bP (by rw[IB,ae];rfl)
 replace ae:vo u v=true:=by unfold vo;rw[ae];rfl
 refine aZ λI a w U=>?_;refine St.lo (σ:=Nat) (run 3 4 (run 13 52 [])) ⟨λk=>[(52,AV.int k)],λk=>[],λk=>k<=u.aQ.length/\∀i,i<k->(Ee u v) i=true⟩ (λk=>u.aQ.length-k) 0 U ?aJ ?bF;case aJ=>exact⟨Nat.zero_le _,λi hi=>by omega⟩
 rintro k I a w an U;obtain⟨pH,aT⟩:=an;refine aB λI a w U=>?_;refine cz (λah=>?_) λah=>?_
 .refine bm λI a w U=>?_;refine U.alloc rfl cV gK λb6 I a w U=>?_;refine aF λI a w U=>?_;obtain⟨I,U⟩:=U.fb 0 6;refine U.dk ?_;refine ef ?_;refine .o ((by first|exact gS en cV .tt .tt (λ_=>by have:=IC ae;omega)|exact ku en cV .tt .tt (λ_=>by have:=IC ae;omega)|exact kS en cV .tt .tt (λ_=>by have:=IC ae;omega))) ?_;refine bJ ?_;refine .o (wH [_,_,_] [_,_,_] yN rfl rfl .tt .tt)<|.nil ?_;intro I a w U;refine bj ?_;refine U.cd (λar=>?_) λar=>?_
  .rw[Qu] at ar;replace ar:=nt ar;refine bh ?_;exact bP (by rw[IB,fY (f:=Ee u v) ah ar];simp)
  rw[Qu] at ar;replace ar:=nf ar;refine aF λI a w U=>?_;have U:=U.drop 0;exact U.ag (k+1) (⟨by omega,gI aT ar⟩)
 refine zt ?_;refine bh ?_;exact bP (by rw[IB,ae,fP aT om];rfl)
def vG (l:List aE) (h:l.length<=1048576) (hd:∀v∈l,v.aQ.length<=1048576):
 lf prog 120 [cn l] 62 7 (l.map aE.cells):=by
 refine lf.intro 19 func120 rfl ntmps120 rfl aS (λW I a U=>?_);have U:=U.hP (sz:=7) 62;refine cI λI a w U=>?_;refine St.lo (σ:=Nat×Value) (3::(5::(run 10 8 []))) ⟨λ⟨k,v⟩=>[(8,AV.int k),(3,AV.val v)],λ⟨k,v⟩=>[Own.row v 62 7 ((l.take k).map aE.cells)],λ⟨k,v⟩=>k<=l.length⟩ (λ⟨k,v⟩=>l.length-k) (0,.slice none 0 0) U ?aJ ?bF;case aJ=>exact Nat.zero_le _
 rintro⟨k,v⟩ I a w an U;have hk:k<=l.length:=an;dsimp only at U;refine aB λI a w U=>?_;refine cz (λae=>?_) λae=>?_
 .refine aG λI a w U=>?_;refine U.alloc rfl bQ dO λb5 I a w U=>?_;refine aB λI a w U=>?_;obtain⟨I,U⟩:=U.fb 1 5;refine aG λI a w U=>?_;refine U.o (.c1 (xh (ab l k) (hd _ (bf ae)))) λU=>?_;refine U.o (.li [(ab l k).cells] lX (.u .nil)) λU=>?_;refine U.ap 0 λJC a w U=>?_;rw[cF,<-eT ae] at U;refine aR λI a w U=>?_;have U:=U.drop 1;exact U.ag (k+1,JC) (ae)
 refine zt ?_;refine aF λI a w U=>?_;exact U.Bg (r:=2) 0 rfl rfl rfl (by rw[List.take_of_length_le om])
def E3 (l:List aE) (v:aE) (h:l.length<=1048575) (hd:∀u∈l,u.aQ.length<=1048576) (hv:v.aQ.length<=1048576):
 Fn prog 121 [cn l,v.av] (cn (fJ l v)):=by
 refine Fn.go 29 func121 ntmps121 (λW I a U=>?_);refine aR λI a w U=>?_;refine St.lo (σ:=Nat) (run 17 5 []) ⟨λk=>[(5,AV.int k)],λk=>[],λk=>k<=l.length/\∀i,i<k->fG (ab l i) v=true⟩ (λk=>l.length-k) 0 U ?aJ ?bF;case aJ=>exact⟨Nat.zero_le _,λi hi=>by omega⟩
 rintro k I a w an U;obtain⟨hk,aT⟩:=an;refine wp_seq<|wp_seq<|U.dk ?_;refine yJ ?_;refine .q .T (.cl (oa ..)) ?_;refine bJ ?_;refine .q .T (.cl (oa ..)) ?_;refine .q .T (.cl (Eo ..)) ?_;refine bJ ?_;refine .nil ?_;intro I a w U;refine bj ?_;refine cz (λae=>?_) λae=>?_
 .refine aR λI a w U=>?_;exact U.ag (k+1) (⟨by omega,λi h1=>by rcases Nat.lt_succ_iff_lt_or_eq.1 h1 with h|h;exact aT i h;rw[h];exact ae.2⟩)
 refine zt ?_;refine U.da 6 ?_;simp only[TD];refine bJ ?_;refine gJ.pt (vG l om hd) (az .r aI) ?_;refine cB ?_;refine .o (.c1 (xh v hv)) ?_;refine .o (.li [v.cells] lX (.u .nil)) ?_;refine .nil ?_;intro I a w U;obtain⟨Ei,U⟩:=U.DK (d:=23);refine U.fm [0] (aaN _ (l.map aE.cells) v.cells k (by rw[List.length_map];exact hk) ko (λr hr=>by obtain⟨u,_,rfl⟩:=List.mem_map.1 hr;rfl) rfl) (az .tt (az .tt (az .tt aI))) rfl aN rfl λI a w U=>?_;refine bh ?_;exact congrArg (AV.rows 7) (by rw[<-P0 hk aT (λhl=>by rcases ae with h|h;omega;exact h),List.map_append,List.map_cons,List.map_take,List.map_drop])
def abL (l:List aE) (v:aE) (h:l.length<=1048575) (hd:∀u∈l,u.aQ.length<=1048576) (hv:v.aQ.length<=1048576):
 Fn prog 214 [cn l,v.av] (cn (rB l v)):=by
 refine Fn.go 46 func214 ntmps214 (λW I a U=>?_);refine aF λI a w U=>?_;refine U.l0 λb8 I a w U=>?_;refine aR λI a w U=>?_;refine St.lo (σ:=Nat×Bool×List aE×Value) (run 3 5 (run 29 9 [])) ⟨λ⟨k,done,out,u⟩=>[(7,AV.int k),(6,AV.bool done),(5,AV.val u)],λ⟨k,done,out,u⟩=>[Own.row u 62 7 (out.map aE.cells)],λ⟨k,done,out,u⟩=>ny l v k done out⟩ (λ⟨k,done,out,u⟩=>l.length-k) (0,false,[],.slice (some ⟨b8,0,none⟩) 0 0) U ?aJ ?bF;case aJ=>exact ny.zero l v
 rintro⟨k,done,out,u⟩ I a w an U;have hp:ny l v k done out:=an;have hk:=hp.hk;have kW:=hp.len;have ss:done.toNat<=1:=by cases done<;>simp
 dsimp only at U;refine aZ λI a w U=>?_;refine cz (λae=>?_) λae=>?_
 .refine zt ?_;refine U.dk ?_;refine pB ?_;refine .q .T (.cl (O7 ..)) ?_;refine bJ ?_;refine .nil ?_;intro I a w U;refine bj ?_;refine cz (λah=>?_) λah=>?_
  .refine aG λI a w U=>?_;refine U.o (.c1 (pO v hv)) λU=>?_;refine U.o (.li [v.cells] lX (.u .nil)) λU=>?_;refine U.ap 0 λzF a w U=>?_;rw[cF] at U;refine gT λI a w U=>?_;refine U.o (.c1 (pO (ab l k) (hd _ (bf ae)))) λU=>?_;refine U.o (.li [(ab l k).cells] lX (.u .nil)) λU=>?_;refine U.ap 0 λBY a w U=>?_;rw[cF] at U;refine aZ λI a w U=>?_;exact U.ag (k+1,true,(out++[v])++[ab l k],BY) (by obtain⟨h1,h2⟩:=ah;subst h1;exact hp.before ae h2)
  refine cj λI a w U=>?_;refine U.o (.c1 (pO (ab l k) (hd _ (bf ae)))) λU=>?_;refine U.o (.li [(ab l k).cells] lX (.u .nil)) λU=>?_;refine U.ap 0 λBY a w U=>?_;rw[cF] at U;refine aZ λI a w U=>?_;exact U.ag (k+1,done,out++[ab l k],BY) (hp.step ae (by simpa using ah))
 refine zt ?_;refine aF λI a w U=>?_;refine cz (λar=>?_) λar=>?_
 .refine aG λI a w U=>?_;refine U.o (.c1 (pO v hv)) λU=>?_;refine U.o (.li [v.cells] lX (.u .nil)) λU=>?_;refine U.ap 0 λvH a w U=>?_;rw[cF] at U;refine aR λI a w U=>?_;obtain⟨I,U⟩:=U.fr 0 4;refine U.rt ?_;exact congrArg (AV.rows 7) (by subst ar;exact hp.uq om▸rfl)
 refine aF λI a w U=>?_;obtain⟨I,U⟩:=U.fr 0 4;refine U.rt ?_;exact congrArg (AV.rows 7) (by subst ar;rw[hp.um om])
def B8 (s:Server) (h:sO s):
 dr prog 102 [s.av] [] (λ_=>True) s.P6 s.Z6:=by
 refine dr.intro 23 func102 rfl ntmps102 rfl aS (λW I a U=>?_);obtain⟨h1,⟨h2,h3⟩,⟨h4,h5⟩,h6,h7⟩:=h;refine bK λI a w U=>?_;refine U.alloc rfl cv dN λb2 I a w U=>?_;refine zt ?_;have U:=U.jc;have U:=U.jc;have U:=U.jc;have U:=U.jc;have U:=U.jc;have U:=U.hP (sz:=2) 46;refine U.Bj 20 _ (rp 6 (([6],some (6,[9]))::rp 2 (([1],some (1,[12]))::rp 2 (([2],some (2,[15]))::rp 2 (([3],some (3,[18]))::rp 2 [([4],some (4,[21])),([5],some (5,[22,9,12,15,18,21]))]))))) rfl aS aS rfl ?_;simp only[TD];refine iC ?_;refine aY.Hv 6 rfl rfl gU fo rfl .c .r gQ ?_;refine cB ?_;refine aY.pt 1 rfl rfl (vG s.ai h2 h3) (az .r aI) ?_;refine cB ?_;refine aY.pt 2 rfl rfl (vG s.waits h4 h5) (az .r aI) ?_;refine cB ?_;refine aY.pt 3 rfl rfl (Ez s.aD h6) (az .r aI) ?_;refine cB ?_;refine aY.pt 4 rfl rfl (Ez s.aV h7) (az .r aI) ?_;refine aY.HZ 5 [9,12,15,18,21] (λa=>AV.agg [AV.int s.site,AV.bool s.up,AV.val (a.tmps.getD 9 undef),AV.val (a.tmps.getD 12 undef),AV.val (a.tmps.getD 15 undef),AV.val (a.tmps.getD 18 undef),AV.val (a.tmps.getD 21 undef)]) rfl rfl rfl rfl (λa b h=>by simp only[List.forall_mem_cons] at h;simp only[h]) rfl (λF a I he=>Ok.to (.bd dN (.k (.k (bc.c Yv rfl .tt (w3 (t:=9) he) (bc.c Yx rfl .tt (w3 (t:=12) he) (bc.c Yz rfl .tt (w3 (t:=15) he) (bc.c YB rfl .tt (w3 (t:=18) he) (bc.c YD rfl .tt (w3 (t:=21) he) bc.nil))))))))) ?_;refine .nil ?_;intro I a w U;change St _ _ [Own.box b2 43 [AV.val (.int .i64 0),AV.val (.bool false),AV.rows 2 [],AV.rows 7 [],AV.rows 7 [],AV.rows 3 [],AV.rows 3 []],Own.row (a.tmps.getD 12 undef) 62 7 (s.ai.map aE.cells),Own.row (a.tmps.getD 15 undef) 62 7 (s.waits.map aE.cells),Own.row (a.tmps.getD 18 undef) 115 3 (s.aD.map au.cells),Own.row (a.tmps.getD 21 undef) 115 3 (s.aV.map au.cells),Own.is (AV.agg [AV.int s.site,AV.bool s.up,AV.val (a.tmps.getD 9 undef),AV.val (a.tmps.getD 12 undef),AV.val (a.tmps.getD 15 undef),AV.val (a.tmps.getD 18 undef),AV.val (a.tmps.getD 21 undef)]) (a.tmps.getD 22 undef),Own.row (a.tmps.getD 9 undef) 46 2 (s.aw.map cY.cells)] _ _ _ at U;have U:=U.H4 (d:=22) 5 rfl;generalize a.tmps.getD 9 undef=v9 at U;generalize a.tmps.getD 12 undef=v12 at U;generalize a.tmps.getD 15 undef=v15 at U;generalize a.tmps.getD 18 undef=RA at U;generalize a.tmps.getD 21 undef=RB at U;show wpList _ _ _ _ _ _;refine aB λI a w U=>?_;exact U.dw (v9,v12,v15,RA,RB) [6,1,2,3,4] rfl (.cons (.s 0 cv rfl rfl (by first|rfl|assumption)) .nil) trivial rfl rfl
def uu (s:Server) (h:sO s):Fn prog 102 [s.av] s.av:=(B8 s h).frozen λr c I a w _ U=>by
 obtain⟨I,U⟩:=U.fa 0 0 2;obtain⟨I,U⟩:=U.fa 1 0 3;obtain⟨I,U⟩:=U.fa 2 0 4;obtain⟨I,U⟩:=U.fa 3 0 5;obtain⟨I,U⟩:=U.fa 4 0 6;exact⟨_,_,_,U⟩
def B9 (m:ax) (h:kH m):
 Fn prog 164 [m.av] (m.av):=by
 refine Fn.go 20 func164 ntmps164 (λW I a U=>?_);obtain⟨h1,⟨h2,h3⟩,⟨h4,h5⟩,h6⟩:=h;refine sr<|U.box rfl .tt λb1 I a w U=>U.alloc rfl dI eI λb2 I a w U=>?_;refine zt ?_;refine U.dt 13 ?_;simp only[TD];refine cB ?_;refine .o (.cl (tX m.aQ h1)) ?_;refine cB ?_;refine .o (bT (lf.fn (vG m.ai h2 h3)) (az .r aI)) ?_;refine cB ?_;refine .o (bT (lf.fn (vG m.waits h4 h5)) (az .r aI)) ?_;refine cB ?_;refine .o (.cl (tX m.aD h6)) ?_;refine bJ ?_;refine .nil ?_;intro I a w U;refine pz λI a w U=>?_;refine U.ret rfl (.cons (.sx 1) aW.nil) ?_;rfl
def RC {l:List aE} (v:aE) (hc:cg l=true):(!dL v||(kz l ⟨v.key,v.aq⟩).isSome||decide (80<=(l.length:Int)))=!ix l v:=by
 rw[y9 hc];have e:decide (80<=(l.length:Int))=!decide (l.length<80):=by rw[Bool.eq_iff_iff];simp;omega
 have e2:decide (0<=placeOf l ⟨v.key,v.aq⟩)=!decide (placeOf l v.aU<0):=by
  show decide (0<=placeOf l v.aU)=_;rw[Bool.eq_iff_iff];simp
 unfold ix;rw[e,e2];simp
def Ca {s:Server} (h:ij s=true):s.aw.length=3/\cg s.ai=true/\cg s.waits=true/\fZ s.aD=true/\fZ s.aV=true/\cr s.site=true:=by
 simp only[ij,Bool.and_eq_true] at h;exact Er h.1.1.1.1
def abO (s:Server) (key ao call:Int):
 Fn prog 220 [s.av,AV.int key,AV.int ao,AV.int call] (AV.dy [((ki s key ao call).getD default).av,AV.bool (ki s key ao call).isSome]):=by
 refine Fn.go 52 func220 ntmps220 (λW I a U=>?_);have lens:s.aw.length<=9223372036854775807/\s.ai.length<=9223372036854775807/\s.waits.length<=9223372036854775807/\s.aD.length<=9223372036854775807/\s.aV.length<=9223372036854775807:=⟨U.ln 0 2,U.ln 0 3,U.ln 0 4,U.ln 0 5,U.ln 0 6⟩;refine bK λI a w U=>?_;refine U.alloc rfl bQ dO λb8 I a w U=>?_;refine aF λI a w U=>?_;refine St.lo (σ:=Nat) (run 42 9 []) ⟨λk=>[(10,AV.int k)],λk=>[Own.box b8 62 [AV.val (.int .i64 0),AV.val (.int .i64 0),AV.val (.int .i64 0),AV.val (.int .i64 0),AV.val (.int .i64 0),AV.val (.int .i64 0),AV.rows 3 []]],λk=>k<=s.ai.length/\∀i,i<k->(oV s key ao call) (ab s.ai i)=false⟩ (λk=>s.ai.length-k) 0 U ?aJ ?bF;case aJ=>exact⟨Nat.zero_le _,λi hi=>by omega⟩
 rintro k I a w an U;obtain⟨hk,aT⟩:=an;refine cI λI a w U=>?_;refine cz (λae=>?_) λae=>?_
 .refine cj λI a w U=>?_;refine U.alloc rfl bQ dO λma I a w U=>?_;refine aB λI a w U=>?_;obtain⟨I,U⟩:=U.fb 1 11;refine U.dk ?_;refine nT ?_;refine ef ?_;refine .q .T (.cl (rj ..)) ?_;refine cB ?_;refine .q .T (.cl (rj ..)) ?_;refine cB ?_;refine .nil ?_;intro I a w U;refine bj ?_;refine U.cd (λah=>?_) λah=>?_
  .change(oV s key ao call) (ab s.ai k)=true at ah;refine aR λI a w U=>?_;refine U.ret rfl (.cons (.sx 0) (.cons (.t rfl) aW.nil)) ?_;exact(by rw[show ki s key ao call=some (ab s.ai k) from Qx ae aT ah];rfl)
  change(oV s key ao call) (ab s.ai k)=false at ah;refine aR λI a w U=>?_;have U:=U.drop 1;exact U.ag (k+1) (⟨ae,λi h1=>by rcases Nat.lt_succ_iff_lt_or_eq.1 h1 with h|h;exact aT i h;rw[h];exact ah⟩)
 refine zt ?_;refine U.o (.bd dO bc.nil) λU=>?_;refine aF λI a w U=>?_;refine U.ret rfl (.cons (.sx 0) (.cons (.t rfl) aW.nil)) ?_;exact(by rw[show ki s key ao call=none from PC om aT];rfl)
def JD {s:Server} (h:ij s=true):fg s:=by
 obtain⟨h1,h2,h3,h4,h5,h6⟩:=Ca h;refine⟨h1,h2,h3,λv hv=>?_,iX h5⟩;simp only[ij,Bool.and_eq_true] at h;obtain⟨k,hk,rfl⟩:=gm hv;have:=(jm.1 h.1.2) k hk;simp only[sS,ub,Bool.and_eq_true,decide_eq_true_eq] at this;exact this.2
def RD {l:List aE} (h:VS l) {i j:Nat} (hi:i<l.length) (hj:j<l.length) (aX:i≠j):(ab l i).aU≠(ab l j).aU:=λe=>by
 rcases Nat.lt_or_gt_of_ne aX with bw|bw
 .have:=xq h bw hj;unfold fG at this;rw[e,xB] at this;cases this
 have:=xq h bw hi;unfold fG at this;rw[e,xB] at this;cases this
def JE {s:Server} (h:s.ai.length<80->∀i,i<s.waits.length->ic s (ab s.waits i)=false):dx s<0:=by
 unfold dx;split
 .rename_i pT;rw[my (k:=s.waits.length) (Nat.le_refl _) (h pT)];omega
 omega
def E4 {α:Type} [Inhabited α] {p:α->Bool} {l:List α}:hasB p l=true↔∃x∈l,p x=true:=⟨Jz,λ⟨_,hx,hp⟩=>Ec hx hp⟩
def JF {α:Type} [Inhabited α] {p:α->Bool} {l:List α}:hasB p l=false↔∀x∈l,p x=false:=by
 rw[<-Bool.not_eq_true,E4];exact⟨λh x hx=>by cases hp:p x;rfl;exact absurd ⟨x,hx,hp⟩ h,λh ⟨x,hx,hp⟩=>by rw[h x hx] at hp;cases hp⟩
def oe {l:List au} {d:au}:0<=eW l d↔d∈l:=by
 have:=E4 (p:=λe=>decide (e=d)) (l:=l);unfold hasB at this;simp only[decide_eq_true_eq] at this;unfold eW;rw[this];exact⟨λ⟨x,hx,e⟩=>e▸hx,λh=>⟨d,h,rfl⟩⟩
def E5 {s:Server} (h:bG s) {i:Nat} (hi:i<3):rn (ab s.aw i)=true:=h.aK _ (bf (by rw[h.aw];exact hi))
def xK {l:List aE} {d:au} {v:aE} (h:eE l d=some v):v∈l/\v.aU=d:=by
 unfold eE at h;split at h
 .rename_i hp;obtain⟨h1,h2⟩:=zc hp;cases h;exact⟨bf h1,h2⟩
 cases h
def abP {s:Server} (h:bG s) {i:Nat} (hi:i<3):0<=(ab s.aw i).ba/\(ab s.aw i).ba<=9999:=by
 have:=rz.1 (E5 h hi);exact⟨this.1,this.2.1⟩
def vI {q:Call} {key:Int}:0<=cm q key↔∃a∈q.aC,a.key=key:=by
 have:=E4 (p:=tT key) (l:=q.aC);unfold hasB at this;rw[decide_eq_true_eq] at this;unfold cm;rw[this];simp[tT]
def RE {l:List au} (h:bU l=true) {a b:au} (ha:a∈l) (hb:b∈l) (he:a.key=b.key):a=b:=by
 obtain⟨i,hi,rfl⟩:=gm ha;obtain⟨j,hj,rfl⟩:=gm hb;rcases Nat.lt_trichotomy i j with bw|rfl|bw
 .have:=B6 h bw hj;omega
 .rfl
 have:=B6 h bw hi;omega
def abQ {a b:au} (h:eD a b=true):eD b a=false:=by
 cases h2:eD b a
 .rfl
 have:=zb h h2;rw[xB] at this;cases this
def RF {l:List au} {d:au} (h:eW l d<0):∀x∈l,x≠d:=λx hx e=>by
 have:=oe.2 (e▸hx);omega
def uv (s:Server) (m x:ax) (h:kH x):
 Fn prog 246 [s.av,m.av,x.av] (dR [{x with aO:=s.site,to:=m.aO}]):=by
 refine Fn.go 16 func246 ntmps246 (λW I a U=>?_);refine aG λI a w U=>?_;refine U.box rfl .tt λb5 I a w U=>?_;refine aB λI a w U=>?_;refine U.gw (rp 5 [([0],some (0,[])),([],none),([0],some (0,[]))]) aS aS rfl ?_;refine gF ?_;refine aY.jn (x:=AV.any) 0 (λF W0 I0 I a w Q U kk=>U.s1 0 λU=>kk _ _ _ U) ?_;refine bJ ?_;refine aY.jn (x:=AV.any) 0 (λF W0 I0 I a w Q U kk=>U.s1 0 λU=>kk _ _ _ U) ?_;refine .nil ?_;intro I a w U;refine bK λI a w U=>?_;refine U.o (.c1 (B9 {x with aO:=s.site,to:=m.aO} h)) λU=>?_;refine U.o (.li [({x with aO:=s.site,to:=m.aO}:ax).cells] ir (.u .nil)) λU=>?_;refine bh ?_;rfl
def RG (s:Server) (m:ax):(!js (fh s m)||!ix s.ai (eK s m)||decide (80<=(s.aD.length:Int)))=!(js (fh s m)&&ix s.ai (eK s m)&&decide (s.aD.length<80)):=by
 have e:decide (80<=(s.aD.length:Int))=!decide (s.aD.length<80):=by rw[Bool.eq_iff_iff];simp;omega
 rw[e];simp
def abR {s:Server} {v:aE} (hk:c7 v.key=true):(fq s v.key&&!hasB (λd=>!ew s d) v.aQ)=ic s v:=by
 have e:=B7 (p:=λd=>!ew s d) (l:=v.aQ);simp only[Bool.not_not] at e;unfold fq ic xp;rw[hk,e];simp
def abS {s x:Server} (h:gZ x=gZ s) (hp:dx x<0):dB s={x with aV:=x.aV.filter λd=>!(!gY x d)}:=by
 have e:=Rw hp;unfold dB Ew;rw[<-h,e,aah]
def abT {s:Server}:ue s s.aw.length=leaving s:=rfl
def oX (s:Server) (k:Nat):List ax:=(ue s k).map λi:Nat=>fS s (i:Int)
def RH {s:Server} {k:Nat} (h:(ab s.aw k).bD=2):oX s k++[fS s (k:Int)]=oX s (k+1):=by
 unfold oX;rw[aaj h,List.map_append];rfl
def RI {s:Server} {k:Nat} (h:¬(ab s.aw k).bD=2):oX s k=oX s (k+1):=by
 unfold oX;rw[aak h]
def JG (s:Server) (k:Nat):(oX s k).length<=k:=by unfold oX;rw[List.length_map];exact aal s k
def ju (s:Server) (k:Nat):List ax:=oX s 3++((s.aD.take k).map (jt s)).flatten
def E6 {s:Server} {k:Nat} (h:k<s.aD.length):ju s (k+1)=ju s k++jt s (ab s.aD k):=by
 unfold ju;rw[eT h,List.map_append,List.flatten_append,List.append_assoc];simp
def RJ (s:Server) (d:au):(jt s d).length<=2:=by unfold jt;split<;>simp
def zG (s:Server):∀k,k<=s.aD.length->(ju s k).length<=3+2*k
 |0,_=>by have:=JG s 3;simp[ju];omega
 |k+1,h=>by have:=zG s k om;have:=RJ s (ab s.aD k);rw[E6 om,List.length_append];omega
def RL {s:Server} {d:au} (h:¬cM s d.key=1):jt s d=[]:=by unfold jt;rw[if_neg (by simpa using h)]
def abU {s:Server} {d:au} (h:cM s d.key=1):(jt s d).length=2:=by unfold jt;rw[if_pos (by simpa using h)];rfl
def abV {s:Server} {d:au} {v:aE} (h:cM s d.key=1) (hv:eE s.ai d=some v) {j:Nat} (hj:j<2):ab (jt s d) j={bW with kind:=5,aO:=s.site,to:=2-2*bM s.site+(j:Int),ai:=[v]}:=by
 unfold jt;rw[if_pos (by simpa using h),hv];match j,hj with
 |0,_=>show _={bW with kind:=5,aO:=s.site,to:=2-2*bM s.site+(0:Int),ai:=[v]};rw[Int.add_zero];rfl
 |1,_=>rfl
def zH {s:Server} (h:∀v∈s.waits,v.aQ.length<=6):∀i,i<=s.waits.length->(nw s i).length<=6*i
 |0,_=>by simp[nw]
 |i+1,hi=>by
  have h1:=zH h i om;have h2:=BN s i (ab s.waits i).aQ.length;have h3:=h _ (bf (l:=s.waits) (k:=i) om);rw[<-I4 om (Nat.le_refl _)];omega
def og (s:Server) (l:List au):List ax:=ju s s.aD.length++l.map (mB s)
def RM (s:Server) (l:List au) (d:au):og s l++[mB s d]=og s (l++[d]):=by unfold og;simp
def JH {s:Server} (hu:s.up=true) (h3:s.aw.length=3):og s (uc s)=gy s:=by
 unfold og ju oX gy;rw[hu,if_pos rfl,List.take_length,<-h3,abT]
def RN {s:Server} (hu:s.up=false):gy s=[]:=by unfold gy;rw[hu];rfl
def E7 (s:Server):(!ij s||!s.up)=!(ij s&&s.up):=by simp
def RO {s:Server} {k:Nat} (h:k=3):oX s k=ju s 0:=by subst h;simp[ju]
def RP {s:Server} {k:Nat} (h:k=s.aD.length):ju s k=og s (nw s 0):=by
 subst h;unfold og;rw[show nw s 0=[] from rfl];simp
def RQ {s:Server} {k j:Nat} {v:aE} (be:cM s (ab s.aD k).key=1) (hv:eE s.ai (ab s.aD k)=some v) (hj:j<2):ju s k++(jt s (ab s.aD k)).take j++[{bW with kind:=5,aO:=s.site,to:=2-2*bM s.site+(j:Int),ai:=[v]}]=ju s k++(jt s (ab s.aD k)).take (j+1):=by
 rw[List.append_assoc,<-abV be hv hj,<-eT (by rw[abU be];exact hj)]
def RR {s:Server} {k j:Nat} (hk:k<s.aD.length) (hj:2<=j):ju s k++(jt s (ab s.aD k)).take j=ju s (k+1):=by
 rw[E6 hk,List.take_of_length_le (by have:=RJ s (ab s.aD k);omega)]
def abW {s:Server} {k:Nat} {v:aE} (hk:k<s.aD.length) (xL:v.key=(ab s.aD k).key) (h:¬(ab s.aw (cL v.key).toNat).bD=1):ju s k=ju s (k+1):=by
 rw[E6 hk,RL (by unfold cM;rw[<-xL];exact h),List.append_nil]
def RS {s:Server} {m:ax} (h:s.aD.length<=80):(!js (fh s m)||((s.aD.length:Int)==80))=!(js (fh s m)&&decide (s.aD.length<80)):=by
 have e:((s.aD.length:Int)==80)=!decide (s.aD.length<80):=by rw[Bool.eq_iff_iff];simp;omega
 rw[e];simp
def E8 {s:Server} {slot:Int} (h:(eZ s slot).2.2=true):lL s slot=true:=by unfold eZ at h;split at h;assumption;cases h
def JI {s:Server} {slot:Int} (h:(eZ s slot).2.2=false):lL s slot=false:=by unfold eZ at h;split at h;cases h;rename_i hh;simpa using hh
def JJ {s:Server} {slot:Int} (h:lL s slot=true):eZ s slot=(gV s slot,fS (gV s slot) slot,true):=by unfold eZ;rw[if_pos h]
def abX {s:Server} {slot:Int} (h:lL s slot=false):eZ s slot=(s,bW,false):=by unfold eZ;rw[h];rfl
def abY {w:aj} {e:Ev} (h7:¬e.kind=7) (h6:¬e.kind=6) (h8:¬e.kind=8) (hm:(eZ (ab w.aA e.at_.toNat) e.slot).2.2=true):eN w e=({w with aA:=w.aA.set e.at_.toNat (eZ (ab w.aA e.at_.toNat) e.slot).1,al:=eo w.al [(eZ (ab w.aA e.at_.toNat) e.slot).2.1]},(eZ (ab w.aA e.at_.toNat) e.slot).2.2):=by
 unfold eN;rw[if_neg h7,if_neg h6,if_neg h8,if_pos (E8 hm),JJ (E8 hm)]
def abZ {w:aj} {e:Ev} (h7:¬e.kind=7) (h6:¬e.kind=6) (h8:¬e.kind=8) (hm:(eZ (ab w.aA e.at_.toNat) e.slot).2.2=false):eN w e=({w with aA:=w.aA.set e.at_.toNat (eZ (ab w.aA e.at_.toNat) e.slot).1},(eZ (ab w.aA e.at_.toNat) e.slot).2.2):=by
 unfold eN;rw[if_neg h7,if_neg h6,if_neg h8,if_neg (by rw[JI hm];simp),abX (JI hm),Zr]
def zy (l:List aE):
 Fn prog 68 [cn l] (AV.bool (cg l)):=by
 refine Fn.go 35 func68 ntmps68 (λW I a U=>?_);have hle:=U.eC (t:=0) rfl;refine aZ λI a w U=>?_;refine St.lo (σ:=Nat) (run 3 2 (run 25 7 [])) ⟨λk=>[(7,AV.int k)],λk=>[],λk=>k<=l.length/\∀i,i<k->(fl dL fG l) i=true⟩ (λk=>l.length-k) 0 U ?aJ ?bF;case aJ=>exact⟨by simp,λi hi=>by omega⟩
 rintro k I a w an U;obtain⟨hk,aT⟩:=an;refine aB λI a w U=>?_;refine cz (λae=>?_) λae=>?_
 .refine bm λI a w U=>?_;refine U.alloc rfl bQ dO λb4 I a w U=>?_;refine aF λI a w U=>?_;obtain⟨I,U⟩:=U.fb 0 4;refine U.dk ?_;refine bJ ?_;refine .o (.c1 (Iu ..)) ?_;refine pC ?_;refine .q .T2 (.cl (oa ..)) ?_;refine bJ ?_;refine .q .T2 (.cl (oa ..)) ?_;refine .q .T2 (.cl (Eo ..)) ?_;refine dD ?_;refine .nil ?_;intro I a w U;refine bj ?_;refine U.cd (λah=>?_) λah=>?_
  .rw[show eD (ab l ((k:Int)-1).toNat).aU (ab l k).aU=fG (ab l ((k:Int)-1).toNat) (ab l k) from rfl,uW] at ah;replace ah:=nt ah;refine bh ?_;exact bP (by unfold cg;rw[fY (f:=(fl dL fG l)) ae ah];simp)
  rw[show eD (ab l ((k:Int)-1).toNat).aU (ab l k).aU=fG (ab l ((k:Int)-1).toNat) (ab l k) from rfl,uW] at ah;replace ah:=nf ah;refine aF λI a w U=>?_;have U:=U.drop 0;exact U.ag (k+1) (⟨by omega,gI aT ah⟩)
 refine zt ?_;refine aZ λI a w U=>?_;refine U.rt ?_;exact bP (by unfold cg;rw[fP aT om,Bool.and_true];simp;try omega)
def QW (l:List (au)) (p:(au)->Bool) (fv:AV) (hf:∀x:au,x∈l->kV prog fv [x.av] (AV.bool (p x))):
 Fn prog 169 [bE l,fv] (AV.bool (hasB p l)):=by
 refine Fn.go 9 func169 ntmps169 (λW I a U=>?_);refine bm λI a w U=>?_;refine U.o (.cl (aaG _ _ _ hf)) λU=>?_;refine dG ?_;rfl
def aa4 (s:Server) (key:Int) (hk:c7 key=true) (hl:s.aw.length=3):
 Fn prog 153 [s.av,AV.int key] (AV.bool (cM s key !=0)):=by
 refine Fn.go 13 func153 ntmps153 (λW I a U=>?_);have hr:=rr hk;refine aF λI a w U=>?_;refine U.dk ?_;refine dD ?_;refine .o (.c1 (vz ..)) ?_;refine gF ?_;refine .nil ?_;intro I a w U;refine zt ?_;refine U.rt ?_;rfl
def QX (s:Server) (l:List aE) (hl:s.aw.length=3) (hc:cg l=true):
 Fn prog 93 [s.av,cn l] (AV.bool (de l.length (oQ s l))):=by
 refine Fn.go 20 func93 ntmps93 (λW I a U=>?_);have hle:=U.eC (t:=1) rfl;refine aR λI a w U=>?_;refine St.lo (σ:=Nat) (run 16 4 []) ⟨λk=>[(5,AV.int k)],λk=>[],λk=>k<=l.length/\∀i,i<k->(oQ s l) i=true⟩ (λk=>l.length-k) 0 U ?aJ ?bF;case aJ=>exact⟨Nat.zero_le _,λi hi=>by omega⟩
 rintro k I a w an U;obtain⟨pH,aT⟩:=an;refine aZ λI a w U=>?_;refine cz (λae=>?_) λae=>?_
 .refine zt ?_;refine U.dk ?_;refine iC ?_;refine .o (.c2 (aa4 _ _ (rq (vA hc ae)) hl)) ?_;refine bJ ?_;refine .nil ?_;intro I a w U;refine bj ?_;refine U.cd (λah=>?_) λah=>?_
  .replace ah:=nt ah;refine bh ?_;exact bP (fY (f:=oQ s l) ae ah).symm
  replace ah:=nf ah;refine aR λI a w U=>?_;exact U.ag (k+1) (⟨by omega,gI aT ah⟩)
 refine zt ?_;refine bh ?_;exact bP (fP aT om).symm
def fi {l:List aE} (h:cg l=true):∀x∈l,dL x=true:=λx hx=>by
 obtain⟨k,hk,rfl⟩:=gm hx;exact vA h hk
def dP (l:List au) (d:au):List au:=if 0<=eW l d then l else lC l d
def Jl (l:List au) (v:au):(dP l v).length<=l.length+1:=by
 unfold dP;split
 .omega
 rw[Qs];exact Nat.le_refl _
def fK (s:Server) (m:ax):Server:=
 if(m.aO==eX s.site)&&gY s ⟨m.key,m.aq⟩&&decide (s.aV.length<80) then dB {s with aV:=dP s.aV ⟨m.key,m.aq⟩} else s
def iJ (s:Server) (m:ax):Server:=
 let x:=dW s m.slot
 {x with aw:=x.aw.set m.slot.toNat ⟨m.ba,1⟩,ai:=iT x.ai m.ai,waits:=iT x.waits m.waits,aD:=m.aD.foldl dP x.aD}
def asks (q:Call):List ax:=
 if q.kind=1 then[{bW with kind:=1,key:=ab q.keys 0,val:=q.val,aQ:=q.ctx}]
 else(q.keys.filter λk=>decide (cm q k<0)).map (λk=>{bW with kind:=3,key:=k})++q.aL.map λd=>{bW with kind:=3,key:=d.key,aq:=d.aq}
def ie (q:Call):List ax:=if cD q then((asks q).map (jr q)).flatten else[]
def iK (w:aj) (e:Ev):Call:={xf with ao:=e.ao,num:=tW w.calls e.ao+1,kind:=e.call,keys:=lq e,val:=if e.call=1 then e.val else 0,ctx:=ab w.seen e.ao.toNat,bH:=w.time}
def pZ {l:List aE} (h:cg l=true):∀v∈l,v.aQ.length<=6:=λv hv=>iE (iW (fi h v hv)).2.2
def vD {l:List aE} (h:cg l=true):vp l:=⟨by have:=g0 h;omega,λv hv=>by have:=iE (IQ (fi h v hv));omega⟩
def xG (l:List aE) (h:l.length<=1048576) (hd:∀y∈l,y.aQ.length<=1048576):
 Fn prog 135 [cn l] (cn l):=by
 refine Fn.go 21 func135 ntmps135 (λW I a U=>?_);have hle:=U.eC (t:=0) rfl;refine aB λI a w U=>?_;refine U.l0 λb5 I a w U=>?_;refine aF λI a w U=>?_;refine St.lo (σ:=Nat×Value) (run 2 3 (run 14 6 [])) ⟨λ⟨k,v⟩=>[(4,AV.int k),(3,AV.val v)],λ⟨k,v⟩=>[Own.row v 62 7 ((l.take k).map aE.cells)],λ⟨k,v⟩=>k<=l.length⟩ (λ⟨k,v⟩=>l.length-k) (0,.slice (some ⟨b5,0,none⟩) 0 0) U ?aJ ?bF;case aJ=>exact Nat.zero_le _
 rintro⟨k,v⟩ I a w an U;have hk:k<=l.length:=an;dsimp only at U;refine aZ λI a w U=>?_;refine cz (λae=>?_) λae=>?_
 .refine cj λI a w U=>?_;refine U.o (.c1 (pO (ab l k) (hd _ (bf ae)))) λU=>?_;refine U.o (.li [(ab l k).cells] lX (.u .nil)) λU=>?_;refine U.ap 0 λrE a w U=>?_;rw[cF,<-eT ae] at U;refine aZ λI a w U=>?_;exact U.ag (k+1,rE) (ae)
 refine zt ?_;refine aF λI a w U=>?_;obtain⟨I,U⟩:=U.fr 0 2;refine U.rt ?_;exact congrArg (AV.rows 7) (by rw[List.take_of_length_le om])
def QY (m:ax) (h:kH m):
 Fn prog 134 [m.av] (m.av):=by
 refine Fn.go 22 func134 ntmps134 (λW I a U=>?_);obtain⟨h1,⟨h2,h3⟩,⟨h4,h5⟩,h6⟩:=h;refine sr<|U.box rfl .tt λb1 I a w U=>U.alloc rfl dI eI λb2 I a w U=>?_;refine zt ?_;refine U.l0 λb3 I a w U=>?_;refine aG λI a w U=>?_;refine U.ap 2 λv6 a w U=>?_;obtain⟨I,U⟩:=U.fr 2 6;refine bB λI a w U=>?_;refine U.o (.cl (xG m.ai h2 h3)) λU=>?_;refine bB λI a w U=>?_;refine U.o (.cl (xG m.waits h4 h5)) λU=>?_;refine aF λI a w U=>?_;refine U.l0 λBV I a w U=>?_;refine aG λI a w U=>?_;refine U.ap 3 λrE a w U=>?_;obtain⟨I,U⟩:=U.fr 3 19;refine aZ λI a w U=>?_;refine U.ret rfl (.cons (.sx 1) aW.nil) ?_;rfl
def ES (l:List aE) (slot:Int) (hc:cg l=true):
 Fn prog 227 [cn l,AV.int slot] (AV.dy [cn (l.filter (eR slot)),cn (l.filter (λv=>!eR slot v))]):=by
 refine Fn.go 48 func227 ntmps227 (λW I a U=>?_);have hle:=U.eC (t:=0) rfl;have BW:=g0 hc;have jG:=pZ hc;refine aF λI a w U=>?_;refine U.l0 λb9 I a w U=>?_;refine aB λI a w U=>?_;refine U.l0 λl6 I a w U=>?_;refine aG λI a w U=>?_;refine U.o (.cl (vr ..)) λU=>?_;refine aB λI a w U=>?_;refine U.cd (λae=>?_) λae=>?_
 .exfalso;rw[hc] at ae;cases ae;skip
 refine aB λI a w U=>?_;refine St.lo (σ:=Nat×Value×Value) (run 3 6 (run 30 16 [])) ⟨λ⟨k,u,v⟩=>[(8,AV.int k),(6,AV.val u),(7,AV.val v)],λ⟨k,u,v⟩=>[Own.row u 62 7 (((l.take k).filter (eR slot)).map aE.cells),Own.row v 62 7 (((l.take k).filter (λv=>!eR slot v)).map aE.cells)],λ⟨k,u,v⟩=>k<=l.length⟩ (λ⟨k,u,v⟩=>l.length-k) (0,.slice (some ⟨b9,0,none⟩) 0 0,.slice (some ⟨l6,0,none⟩) 0 0) U ?aJ ?bF;case aJ=>exact Nat.zero_le _
 rintro⟨k,u,v⟩ I a w an U;have hk:k<=l.length:=an;have QZ:=sW (eR slot) l k;have BX:=sW (λv=>!eR slot v) l k;dsimp only at U;refine aZ λI a w U=>?_;refine cz (λah=>?_) λah=>?_
 .refine cj λI a w U=>?_;refine U.o (.c1 (vz ..)) λU=>?_;refine aF λI a w U=>?_;refine U.cd (λar=>?_) λar=>?_
  .change eR slot (ab l k)=true at ar;refine cj λI a w U=>?_;refine U.o (bT (pO _ (by have:=jG _ (bf ah);omega)) (az (.t rfl) aI)) λU=>?_;refine U.o (.li [(ab l k).cells] lX (.u .nil)) λU=>?_;refine U.ap 0 λBY a w U=>?_;rw[cF,<-nY ah ar,show(l.take k).filter (λv=>!eR slot v)=(l.take (k+1)).filter (λv=>!eR slot v) from(ob ah (by show(!eR slot _)=false;rw[ar];rfl)).symm] at U;refine aZ λI a w U=>?_;exact U.ag (k+1,BY,v) (ah)
  change eR slot (ab l k)=false at ar;refine cj λI a w U=>?_;refine U.o (bT (pO _ (by have:=jG _ (bf ah);omega)) (az (.t rfl) aI)) λU=>?_;refine U.o (.li [(ab l k).cells] lX (.u .nil)) λU=>?_;refine U.ap 1 λJm a w U=>?_;rw[cF,<-nY (p:=(λv=>!eR slot v)) ah (by show(!eR slot _)=true;rw[ar];rfl),show(l.take k).filter (eR slot)=(l.take (k+1)).filter (eR slot) from(ob ah ar).symm] at U;refine aZ λI a w U=>?_;exact U.ag (k+1,u,Jm) (ah)
 refine zt ?_;refine aZ λI a w U=>?_;obtain⟨I,U⟩:=U.fr 0 4;obtain⟨I,U⟩:=U.fr 1 5;refine U.rt ?_;exact(by rw[List.take_of_length_le om];rfl)
def fg.small {s:Server} (h:fg s) (ho:s.aD.length<=1048576):sO s:=⟨by have:=h.aw;omega,vD h.ai,vD h.waits,ho,by have:=h.aV;omega⟩
def fg.Q0 {s:Server} (h:fg s) {d:au} (hl:s.aV.length<80):fg {s with aV:=dP s.aV d}:=⟨h.aw,h.ai,h.waits,h.apart,by have:=Jl s.aV d;show(dP s.aV d).length<=80;omega⟩
def uh {α:Type} [Inhabited α] {p:α->Bool} {l:List α}:(de l.length λi=>p (ab l i))=true↔∀x∈l,p x=true:=by
 rw[jm];exact⟨λh x hx=>by obtain⟨k,hk,rfl⟩:=gm hx;exact h k hk,λh i hi=>h _ (bf hi)⟩
def oW {l:List aE} {d:au}:0<=placeOf l d↔∃x∈l,x.aU=d:=by
 constructor
 .intro h;obtain⟨h1,h2⟩:=zc h;exact⟨_,bf h1,h2⟩
 rintro⟨x,hx,he⟩;apply Int.not_lt.1;intro hn;exact pP hn x hx he
def Q1:∀{l:List au} {d:au},(l.Pairwise λa b=>eD a b=true)->(∀x∈l,x≠d)->(lC l d).Pairwise λa b=>eD a b=true
 |[],d,_,_=>by simp[lC]
 |e::r,d,h,hn=>by
  unfold lC;rw[List.pairwise_cons] at h;split
  .rename_i hl;rw[List.pairwise_cons];refine⟨λx hx=>?_,List.pairwise_cons.2 h⟩;rcases List.mem_cons.1 hx with rfl|hx
   .exact hl
   exact zb hl (h.1 x hx)
  rename_i hl;rw[List.pairwise_cons];refine⟨λx hx=>?_,Q1 h.2 λx hx=>hn x (by simp[hx])⟩;rcases EP.1 hx with rfl|hx
  .cases hd:eD e x with
   |true=>rfl
   |false=>exact absurd (EM hd (by simpa using hl)) (hn e bk)
  exact h.1 x hx
def bG.Q2 {s:Server} (h:bG s) {slot:Int} {y:cY} (h0:0<=slot) (hy:rn y=true) (hv:∀v∈s.ai,cL v.key=slot->y.bD≠0) (hw:∀v∈s.waits,cL v.key=slot->y.bD≠0) (h3:slot<3):bG {s with aw:=s.aw.set slot.toNat y}:=by
 have key:∀v:aE,dL v=true->cM s v.key≠0->(cL v.key=slot->y.bD≠0)->cM {s with aw:=s.aw.set slot.toNat y} v.key≠0:=λv zA h1 h2=>by
  by_cases U:cL v.key=slot
  .rw[aac U h0 (by rw[h.aw];omega)];exact h2 U
  rw[aab U h0 (rq zA)];exact h1
 refine⟨h.site,by show(s.aw.set _ _).length=3;rw[List.length_set];exact h.aw,h.ai,h.waits,h.aD,h.aV,h.up,λx hx=>?_,λv jf=>key v (fi h.ai v jf) (h.here v jf) (hv v jf),λv jf=>key v (fi h.waits v jf) (h.nZ v jf) (hw v jf),h.n5,h.apart,h.ly⟩;rcases List.mem_or_eq_of_mem_set hx with hx|rfl
 .exact h.aK x hx
 exact hy
def Jn {s:Server} {m:ax} (h:bG s) (hm:bI m=true):∀x∈fh s m,di x=true:=by
 intro x hx;unfold fh at hx;rcases List.mem_append.1 hx with hx|hx
 .obtain⟨d,hd,rfl⟩:=List.mem_map.1 hx;have:=BC (kJ hm).2.2.2.2.2.2.2.1 d hd;simp only[ka,Bool.and_eq_true] at this;exact this.2
 split at hx
 .rename_i v hv;obtain rfl:x=v.aq:=by simpa using hx
  exact(iW (fi h.ai v (rv hv).1)).2.1
 simp at hx
def Q3 {s:Server} {m:ax} (h:bG s) (hm:bI m=true) {st:cx} (U:di st=true):bI (mU s m st)=true:=by
 have p:=kJ hm;exact tO ⟨by simp[mU],by simp[mU]⟩ (pI h.site) p.2.1 p.2.2.2.1 p.2.2.2.2.1 (BD U) ⟨by simp[mU,bW],by simp[mU,bW]⟩ sP ⟨by simp[mU,bW],by simp[mU,bW]⟩ ⟨by simp[mU,bW],by simp[mU,bW]⟩ pR pR xb
def Jo {s:Server} {key ao call:Int} {v:aE} (h:ki s key ao call=some v):v∈s.ai/\v.key=key/\v.ao=ao/\v.call=call/\bM v.aq.site=bM s.site:=by
 have h1:=List.mem_of_find?_eq_some h;have h2:=List.find?_some h;simp only[oV,Bool.and_eq_true,beq_iff_eq] at h2;exact⟨h1,h2.1.1.1,h2.1.1.2,h2.1.2,h2.2⟩
def Q4 {s:Server} {m:ax} (h:bG s) (hm:bI m=true) {v:aE} (hv:dL v=true):bI (l8 s m v)=true:=by
 have p:=kJ hm;have q:=iW hv;exact tO ⟨by simp[l8],by simp[l8]⟩ (pI h.site) p.2.1 ⟨by simp[l8,bW],by simp[l8,bW]⟩ q.1 (BD q.2.1) ⟨by simp[l8,bW],by simp[l8,bW]⟩ sP ⟨by simp[l8,bW],by simp[l8,bW]⟩ ⟨by simp[l8,bW],by simp[l8,bW]⟩ pR pR xb
def aa5 {s:Server} {m:ax} (h:bG s) (hm:bI m=true):∀w∈kK s m,bI w=true:=by
 have p:=kJ hm;unfold kK;split
 .intro w hw;obtain rfl:w=_:=by simpa using hw
  exact tO ⟨by simp[mA],by simp[mA]⟩ (pI h.site) p.2.1 ⟨by simp[mA,bW],by simp[mA,bW]⟩ p.2.2.2.2.1 p.2.2.2.2.2.1 ⟨by simp[mA,bW],by simp[mA,bW]⟩ sP ⟨by simp[mA,bW],by simp[mA,bW]⟩ ⟨by simp[mA,bW],by simp[mA,bW]⟩ pR pR xb
 intro w hw;simp at hw
def aa6 {s:Server} (h:bG s):∀d∈uc s,ka d=true:=by
 intro d hd;rcases IW hd with hd|hd
 .simp at hd
 obtain⟨ds,h1,h2⟩:=List.mem_flatten.1 hd;obtain⟨v,hv,rfl⟩:=List.mem_map.1 h1;exact BC (iW (fi h.waits v hv)).2.2 d h2
def xH {m:ax} (h:bI m=true):kH m:=by
 have p:=kJ h;refine⟨by have:=iE p.2.2.2.2.2.2.2.1;omega,vD p.2.2.2.2.2.2.2.2.2.2.1,vD p.2.2.2.2.2.2.2.2.2.2.2.1,by have:=iX p.2.2.2.2.2.2.2.2.2.2.2.2;omega⟩
def ET {q:Call} {m:ax} (hm:bI m=true) (hv:m.yes=true->m.ai.length=1/\(ab m.ai 0).key=m.key):dT (dh m)=true:=by
 unfold dT dh;dsimp only;cases hy:m.yes
 .simp[mS]
 obtain⟨h1,h2⟩:=hv hy;have:=fi (mW hm).1 _ (bf (l:=m.ai) (k:=0) om);simp[this,h2]
def aa7 {s:Server} (h:fg s) {i:Nat} (hi:i<s.waits.length) (hn:ix s.ai (ab s.waits i)=false):80<=s.ai.length:=by
 have h1:=fi h.waits _ (bf hi);have h2:=h.apart _ (bf hi);unfold ix at hn;rw[h1] at hn;simp only[Bool.true_and,Bool.and_eq_false_iff,decide_eq_false_iff_not] at hn;rcases hn with hn|hn
 .exact absurd h2 hn
 omega
def Q5 (s:Server) (m:ax):((m.aO !=eX s.site)||!gY s ⟨m.key,m.aq⟩||decide (80<=(s.aV.length:Int)))=!((m.aO==eX s.site)&&gY s ⟨m.key,m.aq⟩&&decide (s.aV.length<80)):=by
 have e:decide (80<=(s.aV.length:Int))=!decide (s.aV.length<80):=by rw[Bool.eq_iff_iff];simp;omega
 rw[e];simp[bne]
def Q6 {l ds:List au} {k:Nat} (h:k<ds.length):(ds.take (k+1)).foldl dP l=dP ((ds.take k).foldl dP l) (ab ds k):=by
 rw[eT h,List.foldl_append];rfl
def Q7:∀(ds l:List au),(ds.foldl dP l).length<=l.length+ds.length
 |[],l=>by simp
 |d::r,l=>by have h1:=Q7 r (dP l d);have h2:=Jl l d;simp only[List.foldl_cons,List.length_cons];omega
def Q8 (l ds:List au) (k:Nat):((ds.take k).foldl dP l).length<=l.length+k:=by
 have h1:=Q7 (ds.take k) l;have h2:(ds.take k).length<=k:=by simp;omega
 omega
def Q9 {l vs:List aE} {k:Nat} (hk:k<vs.length) (hp:¬placeOf l (ab vs k).aU<0):iT l (vs.take k)=iT l (vs.take (k+1)):=by
 rw[ED hk,eY,if_neg];intro hn;obtain⟨x,hx,e⟩:=oW.1 (show 0<=placeOf l (ab vs k).aU by omega);exact pP hn x (Qd hx) e
def Ra {s:Server} (h:bG s) {d:au} (hd:d∈s.aD):∃v,eE s.ai d=some v/\v.key=d.key/\v∈s.ai:=by
 obtain⟨x,hx,e⟩:=h.ly d hd;have hp:=oW.2 ⟨x,hx,e⟩;obtain⟨h1,h2⟩:=zc hp;refine⟨ab s.ai (placeOf s.ai d).toNat,by unfold eE;rw[if_pos hp],congrArg au.key h2,bf h1⟩
def xI (d:au):ax:={bW with kind:=3,key:=d.key,aq:=d.aq}
def Rb (d:au):kH (xI d):=PI rfl rfl rfl rfl
def aa8 (q:Call) (n:Value):
 Fn prog 175 [q.yV n] (AV.bool (pM q)):=by
 refine Fn.go 10 func175 ntmps175 (λW I a U=>?_);refine wX λI a w U=>?_;refine U.rt ?_;rfl
def QG (s:cx):
 Fn prog 116 [s.av] (AV.bool (lU s)):=by
 refine Fn.go 9 func116 ntmps116 (λW I a U=>?_);refine bm λI a w U=>?_;refine U.o (.c1 (xm ..)) λU=>?_;refine aG λI a w U=>?_;refine U.q .F (.cl (yY ..)) λU=>?_;refine dG ?_;rfl
def Jf (l:List au):
 Fn prog 107 [bE l] (AV.bool (fZ l)):=by
 refine Fn.go 40 func107 ntmps107 (λW I a U=>?_);have hle:=U.eC (t:=0) rfl;refine aZ λI a w U=>?_;refine St.lo (σ:=Nat) (run 3 2 (run 30 7 [])) ⟨λk=>[(7,AV.int k)],λk=>[],λk=>k<=l.length/\∀i,i<k->(fl ka eD l) i=true⟩ (λk=>l.length-k) 0 U ?aJ ?bF;case aJ=>exact⟨by simp,λi hi=>by omega⟩
 rintro k I a w an U;obtain⟨hk,aT⟩:=an;refine aB λI a w U=>?_;refine cz (λae=>?_) λae=>?_
 .refine bm λI a w U=>?_;refine U.alloc rfl cV gK λb4 I a w U=>?_;refine aF λI a w U=>?_;obtain⟨I,U⟩:=U.fb 0 4;refine U.dk ?_;refine cB ?_;refine .o (.c1 (Bw ..)) ?_;refine ef ?_;refine .q .F (.cl (yY ..)) ?_;refine DR ?_;refine .q .T2 (.cl (Eo ..)) ?_;refine dD ?_;refine .nil ?_;intro I a w U;refine bj ?_;refine U.cd (λah=>?_) λah=>?_
  .rw[II] at ah;replace ah:=nt ah;refine bh ?_;exact bP (by unfold fZ;rw[fY (f:=(fl ka eD l)) ae ah];simp)
  rw[II] at ah;replace ah:=nf ah;refine aF λI a w U=>?_;have U:=U.drop 0;exact U.ag (k+1) (⟨by omega,gI aT ah⟩)
 refine zt ?_;refine aZ λI a w U=>?_;refine U.rt ?_;exact bP (by unfold fZ;rw[fP aT om,Bool.and_true];simp;try omega)
def Jg (m:ax):
 Fn prog 49 [m.av] (AV.bool (bI m)):=by
 refine Fn.go 76 func49 ntmps49 (λW I a U=>?_);refine bB λI a w U=>?_;refine U.o (.cl (jE ..)) λU=>?_;refine bm λI a w U=>?_;refine U.q .T (.cl (sG ..)) λU=>?_;refine bm λI a w U=>?_;refine U.q .F2 (.cl (BA ..)) λU=>?_;refine cj λI a w U=>?_;refine U.q .T (.cl (sG ..)) λU=>?_;refine bm λI a w U=>?_;refine U.q .F2 (.cl (BA ..)) λU=>?_;refine cj λI a w U=>?_;refine U.q .T (.cl (jE ..)) λU=>?_;refine bB λI a w U=>?_;refine U.q .T (.cl (vf ..)) λU=>?_;refine bB λI a w U=>?_;refine U.q .T (.cl (Ql ..)) λU=>?_;refine bB λI a w U=>?_;refine U.q .T (.cl (jE ..)) λU=>?_;refine bB λI a w U=>?_;refine U.q .T (.cl (sH ..)) λU=>?_;refine bB λI a w U=>?_;refine U.q .T (.cl (jE ..)) λU=>?_;refine bB λI a w U=>?_;refine U.q .T (.cl (jE ..)) λU=>?_;refine bB λI a w U=>?_;refine U.q .T (.cl (vr ..)) λU=>?_;refine bB λI a w U=>?_;refine U.q .T (.cl (vr ..)) λU=>?_;refine bB λI a w U=>?_;refine U.q .T (.cl (IJ ..)) λU=>?_;refine dG ?_;rfl
def zw {l:List au} {d:au} (h:bU l=true) (hd:lK d=true):bU (gq l d)=true:=by
 simp only[lK,Bool.and_eq_true] at hd;exact Qn h (by simpa[c7] using hd.1) hd.2
def xD {a b:List au} (ha:bU a=true) (hb:∀d∈b,lK d=true):bU (iV a b)=true:=by
 unfold iV;induction b generalizing a with
 |nil=>exact ha
 |cons d r ih=>exact ih (zw ha (hb d bk)) (λe he=>hb e (by simp[he]))
def QH {a b:List au} {k:Nat} (h:k<b.length):iV a (b.take (k+1))=gq (iV a (b.take k)) (ab b k):=by
 unfold iV;rw[eT h,List.foldl_append];rfl
def QI {a b:List au} (ha:bU a=true) (hb:bU b=true) (k:Nat):bU (iV a (b.take k))=true:=
 xD ha λd hd=>pK hb (List.mem_of_mem_take hd)
def QJ {l:List au} {key:Int} {k:Nat} (hk:l.length<=k) (h:∀i,i<k->pF key (ab l i)=false):bN l key=⟨0,0⟩:=by
 have:l.find? (pF key)=none:=by
  rw[List.find?_eq_none];intro x hx;obtain⟨i,hi,rfl⟩:=gm hx;rw[h i om];simp
 unfold bN;rw[this]
def zx {a:Answer} (h:dT a=true) (hy:a.yes=true):lK a.bl.aU=true/\a.bl.aU=⟨a.key,a.bl.aq⟩:=by
 have h1:=rm h hy;have h2:=iW h1.1;refine⟨by simp[lK,aE.aU,h2.1,h2.2.1],?_⟩;rw[<-h1.2];rfl
def ug (l:List aE) (key:Int) (st:cx):
 Fn prog 94 [cn l,AV.int key,st.av] (AV.dy [((kz l ⟨key,st⟩).getD default).av,AV.bool (kz l ⟨key,st⟩).isSome]):=by
 refine Fn.go 41 func94 ntmps94 (λW I a U=>?_);have hle:=U.eC (t:=0) rfl;refine bK λI a w U=>?_;refine U.alloc rfl bQ dO λb6 I a w U=>?_;refine aG λI a w U=>?_;refine U.o (.cl (vr ..)) λU=>?_;refine aB λI a w U=>?_;refine U.cd (λae=>?_) λae=>?_
 .replace ae:=nt ae;refine zt ?_;refine U.o (.bd dO bc.nil) λU=>?_;refine aF λI a w U=>?_;refine U.ret rfl (.cons (.sx 0) (.cons (.t rfl) aW.nil)) ?_;exact(by rw[aaL ae];rfl)
 replace ae:=nf ae;refine aB λI a w U=>?_;refine St.lo (σ:=Nat) (run 2 7 (run 27 13 [])) ⟨λk=>[(8,AV.int k)],λk=>[Own.box b6 62 [AV.val (.int .i64 0),AV.val (.int .i64 0),AV.val (.int .i64 0),AV.val (.int .i64 0),AV.val (.int .i64 0),AV.val (.int .i64 0),AV.rows 3 []]],λk=>k<=l.length/\∀i,i<k->lY ⟨key,st⟩ (ab l i)=false⟩ (λk=>l.length-k) 0 U ?aJ ?bF;case aJ=>exact⟨Nat.zero_le _,λi hi=>by omega⟩
 rintro k I a w an U;obtain⟨hk,aT⟩:=an;refine aZ λI a w U=>?_;refine cz (λah=>?_) λah=>?_
 .refine zt ?_;refine U.dk ?_;refine rf ?_;refine .q .T (nj [_,_] [_,_] nU rfl rfl .ag .ag) ?_;refine bJ ?_;refine .nil ?_;intro I a w U;refine bj ?_;refine U.cd (λar=>?_) λar=>?_
  .rw[EL] at ar;refine bB λI a w U=>?_;refine U.o (bT (pO _ (by have:=aaJ (vA ae ah);omega)) (az (.t rfl) aI)) λU=>?_;refine aF λI a w U=>?_;refine U.ret rfl (.cons (.sx 0) (.cons (.t rfl) aW.nil)) ?_;exact(by rw[Zf ae ah aT ar];rfl)
  rw[EL] at ar;refine aR λI a w U=>?_;exact U.ag (k+1) (⟨ah,λi h1=>by rcases Nat.lt_succ_iff_lt_or_eq.1 h1 with h|h;exact aT i h;rw[h];exact ar⟩)
 refine zt ?_;refine U.o (.bd dO bc.nil) λU=>?_;refine aF λI a w U=>?_;refine U.ret rfl (.cons (.sx 0) (.cons (.t rfl) aW.nil)) ?_;exact(by rw[aaK om aT];rfl)
def aaU (l:List au) (key:Int) (hl:bU l=true):
 Fn prog 256 [bE l,AV.int key] ((bN l key).av):=by
 refine Fn.go 29 func256 ntmps256 (λW I a U=>?_);have hle:=U.eC (t:=0) rfl;refine sr<|U.alloc rfl mP ke λb4 I a w U=>?_;refine bK λI a w U=>?_;refine U.o (.cl (sH ..)) λU=>?_;refine aB λI a w U=>?_;refine U.cd (λae=>?_) λae=>?_
 .exfalso;rw[hl] at ae;cases ae;skip
 refine aB λI a w U=>?_;refine St.lo (σ:=Nat) (5::(run 18 10 [])) ⟨λk=>[(5,AV.int k)],λk=>[Own.box b4 50 [AV.val (.int .i64 0),AV.val (.int .i64 0)]],λk=>k<=l.length/\∀i,i<k->pF key (ab l i)=false⟩ (λk=>l.length-k) 0 U ?aJ ?bF;case aJ=>exact⟨Nat.zero_le _,λi hi=>by omega⟩
 rintro k I a w an U;obtain⟨hk,aT⟩:=an;refine aZ λI a w U=>?_;refine cz (λah=>?_) λah=>?_
 .refine jD λI a w U=>?_;refine U.cd (λar=>?_) λar=>?_
  .refine iP λI a w U=>?_;refine U.ret rfl (.cons (.sx 0) aW.nil) ?_;exact(by rw[Pa ah aT ar];rfl)
  refine aR λI a w U=>?_;exact U.ag (k+1) (⟨ah,λi h1=>by rcases Nat.lt_succ_iff_lt_or_eq.1 h1 with h|h;exact aT i h;rw[h];exact ar⟩)
 refine zt ?_;refine U.o (.bd ke bc.nil) λU=>?_;refine aB λI a w U=>?_;refine U.ret rfl (.cons (.sx 0) aW.nil) ?_;exact(by rw[QJ om aT];rfl)
def aaV (l:List Int) (key:Int):
 Fn prog 237 [jb l,AV.int key] (AV.int (df (vh key) l)):=by
 refine Fn.go 19 func237 ntmps237 (λW I a U=>?_);have hle:=U.eC (t:=0) rfl;refine aZ λI a w U=>?_;refine St.lo (σ:=Nat) (run 2 4 (run 11 8 [])) ⟨λk=>[(8,AV.int k)],λk=>[],λk=>k<=l.length/\∀i,i<k->vh key (ab l i)=false⟩ (λk=>l.length-k) 0 U ?aJ ?bF;case aJ=>exact⟨Nat.zero_le _,λi hi=>by omega⟩
 rintro k I a w an U;obtain⟨hk,aT⟩:=an;refine aB λI a w U=>?_;refine cz (λae=>?_) λae=>?_
 .refine py λI a w U=>?_;refine U.cd (λah=>?_) λah=>?_
  .rw[show(key==ab l k)=vh key (ab l k) from Bool.beq_comm] at ah;refine dG ?_;exact fW (mQ ae aT ah).symm
  rw[show(key==ab l k)=vh key (ab l k) from Bool.beq_comm] at ah;refine aF λI a w U=>?_;exact U.ag (k+1) (⟨by omega,λi h1=>by rcases Nat.lt_succ_iff_lt_or_eq.1 h1 with h|h;exact aT i h;rw[h];exact ah⟩)
 refine zt ?_;refine bh ?_;exact fW (my om aT).symm
def QK (l:List Int) (key:Int):
 Fn prog 210 [jb l,AV.int key] (AV.bool (ib l key)):=by
 refine Fn.go 9 func210 ntmps210 (λW I a U=>?_);refine bm λI a w U=>?_;refine U.o (.cl (aaV l key)) λU=>?_;refine dG ?_;rfl
def QL (q:Call) (key:Int):
 Fn prog 200 [q.av,AV.int key] (AV.int (cm q key)):=by
 refine Fn.go 9 func200 ntmps200 (λW I a U=>?_);refine bK λI a w U=>?_;refine U.o (yr .tt (by first|exact lG rfl|exact lQ|exact lR|exact lV)) λU=>?_;refine bm λI a w U=>?_;refine U.o (oD (az .tt aI)) λU=>?_;refine U.o (.cl (Qm q.aC (tT key) _ (λv _=>Fn.val (Px v key)))) λU=>?_;refine bh ?_;rfl
def aaW (q:Call):
 Fn prog 173 [q.av] (AV.bool (iu q)):=by
 refine Fn.go 40 func173 ntmps173 (λW I a U=>?_);have lens:q.keys.length<=9223372036854775807/\q.aC.length<=9223372036854775807/\q.aL.length<=9223372036854775807:=⟨U.ln 0 3,U.ln 0 11,U.ln 0 12⟩;refine jD λI a w U=>?_;refine St.lo (σ:=Nat) (run 2 2 (5::(run 11 9 []))) ⟨λk=>[(9,AV.int k),(3,AV.int (vu q.keys k))],λk=>[],λk=>k<=q.keys.length/\∀i,i<k->fl c7 mR q.keys i=true⟩ (λk=>q.keys.length-k) 0 U ?aJ ?bF;case aJ=>exact⟨Nat.zero_le _,λi hi=>by omega⟩
 rintro k I a w an U;obtain⟨hk,aT⟩:=an;refine aB λI a w U=>?_;refine cz (λae=>?_) λae=>?_
 .refine cj λI a w U=>?_;refine U.o (mH .tt .c (λ_=>by have:=PW aT;omega)) λU=>?_;refine U.o (.cl (jq ..)) λU=>?_;refine aB λI a w U=>?_;refine U.cd (λah=>?_) λah=>?_
  .rw[PX aT] at ah;replace ah:=nt ah;refine bh ?_;exact bP (by unfold iu lj;rw[fY (f:=fl c7 mR q.keys) ae ah];rfl)
  rw[PX aT] at ah;replace ah:=nf ah;refine aZ λI a w U=>?_;refine U.again (k+1) ?iG ?iH eA ?iI (by repeat(first|exact Env.le_rfl|refine Env.ja rfl ?_));case iG=>omega
  case iH=>exact⟨by omega,gI aT ah⟩
  case iI=>exact(Env.dK rfl eA (Env.dK rfl (by exact congrArg AV.int (Z0 _ _).symm) Env.le_nil))
 refine zt ?_;refine Ox λI a w U=>?_;refine U.q .T2 (.cl (jq ..)) λU=>?_;refine tJ ?_;exact bP (by unfold iu lj;rw[fP aT om];rfl)
def BT (l:List au) (d:au):
 Fn prog 195 [bE l,d.av] (AV.int (eW l d)):=by
 refine Fn.go 19 func195 ntmps195 (λW I a U=>?_);have hle:=U.eC (t:=0) rfl;refine aR λI a w U=>?_;refine St.lo (σ:=Nat) (run 15 4 []) ⟨λk=>[(5,AV.int k)],λk=>[],λk=>k<=l.length/\∀i,i<k->(λe=>decide (e=d)) (ab l i)=false⟩ (λk=>l.length-k) 0 U ?aJ ?bF;case aJ=>exact⟨Nat.zero_le _,λi hi=>by omega⟩
 rintro k I a w an U;obtain⟨hk,aT⟩:=an;refine aZ λI a w U=>?_;refine cz (λae=>?_) λae=>?_
 .refine zt ?_;refine U.dk ?_;refine gF ?_;refine .o (nj [_,_,_] [_,_,_] yN rfl rfl .tt .tt)<|.nil ?_;intro I a w U;refine bj ?_;refine U.cd (λah=>?_) λah=>?_
  .rw[BQ] at ah;refine dG ?_;exact fW (mQ ae aT ah).symm
  rw[BQ] at ah;refine aR λI a w U=>?_;exact U.ag (k+1) (⟨ae,λi h1=>by rcases Nat.lt_succ_iff_lt_or_eq.1 h1 with h|h;exact aT i h;rw[h];exact ah⟩)
 refine zt ?_;refine bh ?_;exact fW (my om aT).symm
def QM (s:Server) (d:au) (hc:cg s.ai=true):
 Fn prog 194 [s.av,d.av] (AV.bool (ew s d)):=by
 refine Fn.go 25 func194 ntmps194 (λW I a U=>?_);refine yH λI a w U=>?_;refine U.o (.cl (ug ..)) λU=>?_;refine bm λI a w U=>?_;refine U.alloc rfl bQ dO λb5 I a w U=>?_;refine U.sb 0 λU=>?_;obtain⟨I,U⟩:=U.fb 0 5;refine ee λI a w U=>?_;refine U.q .F (.cl (BT ..)) λU=>?_;refine tJ ?_;exact bP (by unfold ew;rw[y9 hc])
def aaX (s:Server) (v:aE) (hc:cg s.ai=true):
 Fn prog 240 [s.av,v.av] (AV.bool (xp s v)):=by
 refine Fn.go 21 func240 ntmps240 (λW I a U=>?_);have lens:v.aQ.length<=9223372036854775807:=U.ln 1 6;refine aZ λI a w U=>?_;refine St.lo (σ:=Nat) (run 17 4 []) ⟨λk=>[(5,AV.int k)],λk=>[],λk=>k<=v.aQ.length/\∀i,i<k->(λi=>ew s (ab v.aQ i)) i=true⟩ (λk=>v.aQ.length-k) 0 U ?aJ ?bF;case aJ=>exact⟨Nat.zero_le _,λi hi=>by omega⟩
 rintro k I a w an U;obtain⟨pH,aT⟩:=an;refine cI λI a w U=>?_;refine cz (λae=>?_) λae=>?_
 .refine zt ?_;refine U.dk ?_;refine iC ?_;refine .o (.c2 (QM _ _ hc)) ?_;refine bJ ?_;refine .nil ?_;intro I a w U;refine bj ?_;refine cz (λah=>?_) λah=>?_
  .refine bh ?_;exact bP (fY (f:=λi=>ew s (ab v.aQ i)) ae ah).symm
  refine aR λI a w U=>?_;exact U.ag (k+1) (⟨by omega,gI aT ah⟩)
 refine zt ?_;refine bh ?_;exact bP (fP aT om).symm
def QN (s:Server) (d:au):
 Fn prog 225 [s.av,d.av] (AV.bool (gY s d)):=by
 refine Fn.go 22 func225 ntmps225 (λW I a U=>?_);have lens:s.aw.length<=9223372036854775807/\s.ai.length<=9223372036854775807/\s.waits.length<=9223372036854775807/\s.aD.length<=9223372036854775807/\s.aV.length<=9223372036854775807:=⟨U.ln 0 2,U.ln 0 3,U.ln 0 4,U.ln 0 5,U.ln 0 6⟩;refine aZ λI a w U=>?_;refine St.lo (σ:=Nat) (run 18 4 []) ⟨λk=>[(5,AV.int k)],λk=>[],λk=>k<=s.waits.length/\∀i,i<k->(λi=>!ry d (ab s.waits i)) i=true⟩ (λk=>s.waits.length-k) 0 U ?aJ ?bF;case aJ=>exact⟨Nat.zero_le _,λi hi=>by omega⟩
 rintro k I a w an U;obtain⟨pH,aT⟩:=an;refine cI λI a w U=>?_;refine cz (λae=>?_) λae=>?_
 .refine zt ?_;refine U.dk ?_;refine mo ?_;refine .o (.cl (BT ..)) ?_;refine bJ ?_;refine .nil ?_;intro I a w U;refine bj ?_;refine cz (λah=>?_) λah=>?_
  .refine bh ?_;exact bP (by unfold gY;rw[fY (f:=λi=>!ry d (ab s.waits i)) ae (by unfold ry;simp;omega)];rfl)
  refine aR λI a w U=>?_;exact U.ag (k+1) (⟨by omega,gI aT (by unfold ry;simp;omega)⟩)
 refine zt ?_;refine bh ?_;exact bP (by unfold gY;rw[fP aT om];rfl)
def QO {n:Int} (h:cr n=true):cr (eX n)=true:=by
 rw[iF] at*;unfold eX;split<;>omega
def QP {s:Server} {m:ax} (h:bG s) (hm:bI m=true):bI (mV s m)=true:=by
 have p:=kJ hm;exact tO ⟨by simp[mV],by simp[mV]⟩ (pI h.site) p.2.1 ⟨by simp[mV,bW],by simp[mV,bW]⟩ Ii BE ⟨by simp[mV,bW],by simp[mV,bW]⟩ sP p.2.2.2.2.2.2.2.2.1 p.2.2.2.2.2.2.2.2.2.1 pR pR xb
def aaY {s:Server} (h:bG s) {d:au} (hd:ka d=true):bI (mB s d)=true:=by
 simp only[ka,Bool.and_eq_true] at hd;exact tO ⟨by simp[mB],by simp[mB]⟩ (pI h.site) (pI (QO h.site)) ⟨by simp[mB,bW],by simp[mB,bW]⟩ hd.1 (BD hd.2) ⟨by simp[mB,bW],by simp[mB,bW]⟩ sP ⟨by simp[mB,bW],by simp[mB,bW]⟩ ⟨by simp[mB,bW],by simp[mB,bW]⟩ pR pR xb
def QQ {s:Server} (h:bG s) {i:Nat} (hi:i∈leaving s):i<3:=by
 have:=List.mem_range.1 (rD hi);rw[h.aw] at this;exact this
def QR {l:List Answer} (h:l.Pairwise λa b=>gW a b=true) {i j:Nat} (hi:i<l.length) (hj:j<l.length) (he:(ab l i).key=(ab l j).key):i=j:=by
 rcases Nat.lt_trichotomy i j with bw|h'|bw
 .have:=xq h bw hj;unfold gW at this;rw[decide_eq_true_eq] at this;omega
 .exact h'
 have:=xq h bw hi;unfold gW at this;rw[decide_eq_true_eq] at this;omega
def pX:∀{l:List Answer} {a x:Answer},x∈c8 l a↔x=a\/x∈l
 |[],a,x=>by simp[c8]
 |e::r,a,x=>by
  unfold c8;split
  .simp
  rw[List.mem_cons,pX,List.mem_cons];constructor
  .rintro(h|h|h)<;>simp[h]
  rintro(h|h|h)<;>simp[h]
def xE:∀(l:List Answer) (a:Answer),(c8 l a).length=l.length+1
 |[],a=>rfl
 |e::r,a=>by unfold c8;split<;>simp[xE r a]
def Jh:∀{l:List Answer} {a:Answer},(l.Pairwise λa b=>gW a b=true)->(∀x∈l,x.key≠a.key)->(c8 l a).Pairwise λa b=>gW a b=true
 |[],a,_,_=>by simp[c8]
 |e::r,a,h,hn=>by
  unfold c8;rw[List.pairwise_cons] at h;have he:=hn e bk;split
  .rename_i hl;rw[List.pairwise_cons];refine⟨λx hx=>?_,List.pairwise_cons.2 h⟩;rcases List.mem_cons.1 hx with rfl|hx
   .unfold gW;rw[decide_eq_true_eq];exact hl
   have:=h.1 x hx;unfold gW at*;rw[decide_eq_true_eq] at*;omega
  rename_i hl;rw[List.pairwise_cons];refine⟨λx hx=>?_,Jh h.2 λx hx=>hn x (by simp[hx])⟩;rcases pX.1 hx with rfl|hx
  .unfold gW;rw[decide_eq_true_eq];omega
  exact h.1 x hx
def QS {a:Answer} (h:dT a=true):bV a.bl.aq gn=false:=by
 cases hy:a.yes
 .rw[y7 h hy];rfl
 exact Pr (rl (iW (rm h hy).1).2.1)
def Ji (tN:List au) (U:∀key,tU (bN tN key)):∀{l:List Answer} {last:Int},(l.Pairwise λa b=>gW a b=true)->(∀a∈l,last<a.key/\a.key<=5)->(∀a∈l,dT a=true)->eb last (l.map (nV tN)).flatten=true
 |[],_,_,_,_=>rfl
 |a::r,last,hp,hk,hg=>by
  rw[List.pairwise_cons] at hp;rw[List.map_cons,List.flatten_cons];have ha:=hk a bk;have pw:∀x∈r,dT x=true:=λx hx=>hg x (by simp[hx]);unfold nV;split
  .rename_i hl;have cX:di (bN tN a.key)=true:=by
    rcases U a.key with e|e
    .rw[e,QS (hg a bk)] at hl;cases hl
    exact e
   show(aH a.key (last+1) 5&&di (bN tN a.key)&&eb a.key _)=true;rw[cX,show aH a.key (last+1) 5=true by simp[aH];omega,Bool.true_and,Bool.true_and];exact Ji tN U hp.2 (λx hx=>⟨by have:=hp.1 x hx;unfold gW at this;rwa[decide_eq_true_eq] at this,(hk x (by simp[hx])).2⟩) pw
  rw[List.nil_append];exact Ji tN U hp.2 (λx hx=>hk x (by simp[hx])) pw
def aaZ {n:Int} (h:cr n=true):sF n 1=eX n:=by
 have:=iF.1 h;obtain rfl|rfl|rfl|rfl:n=0\/n=1\/n=2\/n=3:=by omega
 all_goals rfl
def Jj (n:Int) (h:cr n=true):
 Fn prog 208 [AV.int n] (AV.int (eX n)):=by
 refine Fn.go 5 func208 ntmps208 (λW I a U=>?_);refine aG λI a w U=>?_;refine U.o (N4 .tt .c (λ_=>by have:=iF.1 h;omega)) λU=>?_;refine bh ?_;exact fW (aaZ h)
def QT (s:Server) (m:ax):((m.aO !=eX s.site)||((ab s.aw m.slot.toNat).bD !=2)||((ab s.aw m.slot.toNat).ba !=m.ba))=
 !((m.aO==eX s.site)&&((ab s.aw m.slot.toNat).bD==2)&&((ab s.aw m.slot.toNat).ba==m.ba)):=by simp[bne]
def xF (key:Int):ax:={bW with kind:=3,key:=key}
def pY (q:Call) (k:Nat):List ax:=(((q.keys.take k).filter λk=>decide (cm q k<0)).map λkey=>jr q (xF key)).flatten
def QU {q:Call} {k:Nat} (h:k<q.keys.length) (hg:cm q (ab q.keys k)<0):pY q k++jr q (xF (ab q.keys k))=pY q (k+1):=by
 unfold pY;rw[nY h (by simpa using hg),List.map_append,List.flatten_append];simp
def QV {q:Call} {k:Nat} (h:k<q.keys.length) (hg:¬cm q (ab q.keys k)<0):pY q k=pY q (k+1):=by
 unfold pY;rw[ob h (by simpa using hg)]
def Jk (q:Call):∀k,k<=q.keys.length->(pY q k).length<=2*k
 |0,_=>by simp[pY]
 |k+1,h=>by
  have ih:=Jk q k om;by_cases hg:cm q (ab q.keys k)<0
  .rw[<-QU om hg,List.length_append];show _+2<=_;omega
  rw[<-QV om hg];omega
def aa0 {q:Call} {a:Answer} {k:Nat} (h:k<q.aL.length) (he:ab q.aL k≠a.bl.aU):pS q a k=pS q a (k+1):=by
 unfold pS;by_cases hm:a.bl.aU∈q.aL.take k
 .rw[if_pos hm,if_pos ((Il h).2 (.inl hm))]
 rw[if_neg hm,if_neg λhh=>((Il h).1 hh).elim hm λe=>he e.symm]
def aa1 {q:Call} {a:Answer} {k:Nat} (h:k<q.aL.length) (he:ab q.aL k=a.bl.aU):pU q a k=pU q a (k+1):=(ob h (by simp[he])).symm
def aa2 {a:Answer} (h:dT a=true):bV a.bl.aq gn=false:=by
 cases hy:a.yes
 .rw[y7 h hy];rfl
 have:=(zx h hy).1;simp only[lK,Bool.and_eq_true] at this;have U:=this.2;simp[di,aH,aE.aU] at U;rw[Bool.eq_false_iff];intro e;simp[bV,gn] at e;have h1:=of_decide_eq_true U.1.1;rcases e with e|⟨e,_⟩
 .have:=of_decide_eq_true e;omega
 omega
def aa3 {a:Answer} {s:cx} (h:dT a=true) (U:tU s):(!dS s&&nW a s)=bV a.bl.aq s:=by
 rcases U with rfl|U
 .rw[aa2 h];rfl
 rw[Ps h U];have:dS s=false:=by simp[di,aH] at U;simp[dS];intro e;rw[e] at U;simp at U
 rw[this];rfl
def BU {l:List aE} {d:au} (h:decide (placeOf l d<0)=false):0<=placeOf l d/\placeOf l d<l.length/\eE l d=some (ab l (placeOf l d).toNat):=by
 have hp:0<=placeOf l d:=by simpa using h
 have ha:eE l d=some (ab l (placeOf l d).toNat):=by unfold eE;rw[if_pos hp]
 refine⟨hp,?_,ha⟩;have:=(zc hp).1;omega
def ER (l:List Call) (ao:Int):
 Fn prog 77 [jl l,AV.int ao] (AV.int (bY l ao)):=by
 refine Fn.go 36 func77 ntmps77 (λW I a U=>?_);have hle:=U.eC (t:=0) rfl;refine aF λI a w U=>?_;refine St.lo (σ:=Nat) (run 32 4 []) ⟨λk=>[(5,AV.int k)],λk=>[],λk=>k<=l.length/\∀i,i<k->ri ao (ab l i)=false⟩ (λk=>l.length-k) 0 U ?aJ ?bF;case aJ=>exact⟨Nat.zero_le _,λi hi=>by omega⟩
 rintro k I a w an U;obtain⟨hk,aT⟩:=an;refine aZ λI a w U=>?_;refine cz (λae=>?_) λae=>?_
 .refine Bp λI a w U=>?_;refine U.cd (λah=>?_) λah=>?_
  .change ri ao (ab l k)=true at ah;refine dG ?_;exact fW (mQ ae aT ah).symm
  change ri ao (ab l k)=false at ah;refine aR λI a w U=>?_;exact U.ag (k+1) (⟨ae,λi h1=>by rcases Nat.lt_succ_iff_lt_or_eq.1 h1 with h|h;exact aT i h;rw[h];exact ah⟩)
 refine zt ?_;refine bh ?_;exact fW (my om aT).symm
end Go.Proofs.YtdanidpleofjgaaGreat
