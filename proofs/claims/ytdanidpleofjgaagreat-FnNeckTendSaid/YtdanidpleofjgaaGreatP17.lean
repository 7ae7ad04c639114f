/- Part 17: contracts of functions, plain facts. -/
import Derived.Test.YtdanidpleofjgaaGreatP12
import Derived.Test.YtdanidpleofjgaaGreatP14
set_option linter.all false
set_option maxRecDepth 100000
set_option maxHeartbeats 4000000
namespace Go.Proofs.YtdanidpleofjgaaGreat
open Go Go.RowKit Tryz
attribute [local irreducible] wpList Code.wp Ok
def Bv (l:List aE):
 Fn prog 68 [bQ l] (AV.bool (bY l)):=by
 refine Fn.go 35 func68 ntmps68 (λW I a U=>?_);have hle:=U.dE (t:=0) rfl;refine aY λI a w U=>?_;refine St.lo (σ:=Nat) (run 3 2 (run 25 7 [])) ⟨λk=>[(7,AV.int k)],λk=>[],λk=>k<=l.length/\∀i,i<k->(eQ ef gu l) i=true⟩ (λk=>l.length-k) 0 U ?aL ?bG;case aL=>exact⟨by simp,λi hi=>by omega⟩
 rintro k I a w al U;obtain⟨hk,aT⟩:=al;refine ax λI a w U=>?_;refine cz (λae=>?_) λae=>?_
 .refine aV λI a w U=>?_;refine U.alloc rfl bU dR λb4 I a w U=>?_;refine aB λI a w U=>?_;obtain⟨I,U⟩:=U.fb 0 4;refine U.dk ?_;refine aX ?_;refine .o (.c1 (Hs ..)) ?_;refine lh ?_;refine .q .T2 (.cl (nq ..)) ?_;refine aX ?_;refine .q .T2 (.cl (nq ..)) ?_;refine .q .T2 (.cl (DQ ..)) ?_;refine dJ ?_;refine .nil ?_;intro I a w U;refine bk ?_;refine U.cd (λah=>?_) λah=>?_
  .rw[show ee (ab l ((k:Int)-1).toNat).bh (ab l k).bh=gu (ab l ((k:Int)-1).toNat) (ab l k) from rfl,uy] at ah;replace ah:=nt ah;refine bc ?_;exact bF (by unfold bY;rw[fN (f:=(eQ ef gu l)) ae ah];simp)
  rw[show ee (ab l ((k:Int)-1).toNat).bh (ab l k).bh=gu (ab l ((k:Int)-1).toNat) (ab l k) from rfl,uy] at ah;replace ah:=nf ah;refine aB λI a w U=>?_;have U:=U.drop 0;exact U.ag (k+1) (⟨by omega,gO aT ah⟩)
 refine zt ?_;refine aY λI a w U=>?_;refine U.rt ?_;exact bF (by unfold bY;rw[fJ aT om,Bool.and_true];simp;try omega)
def Qf (l:List (ao)) (p:(ao)->Bool) (fv:AV) (hf:∀x:ao,x∈l->lD prog fv [x.av] (AV.bool (p x))):
 Fn prog 169 [bw l,fv] (AV.bool (hasB p l)):=by
 refine Fn.go 9 func169 ntmps169 (λW I a U=>?_);refine aV λI a w U=>?_;refine U.o (.cl (Yk _ _ _ hf)) λU=>?_;refine di ?_;rfl
def wW {l:List ao} {d:ao} (h:bN l=true) (hd:iP d=true):bN (eS l d)=true:=by
 simp only[iP,Bool.and_eq_true] at hd;exact OY h (by simpa[df] using hd.1) hd.2
def wX {a b:List ao} (ha:bN a=true) (hb:∀d∈b,iP d=true):bN (iB a b)=true:=by
 unfold iB;induction b generalizing a with
 |nil=>exact ha
 |cons d r ih=>exact ih (wW ha (hb d bt)) (λe he=>hb e (by simp[he]))
def Qg:∀{l:List ao} {last:Int},dH last l=true->∀{i j:Nat},i<j->j<l.length->(ab l i).key<(ab l j).key
 |[],_,_,i,j,_,hj=>by simp at hj
 |e::r,last,h,0,j+1,_,hj=>by
  simp only[dH,Bool.and_eq_true] at h;have sY:j<r.length:=by simpa using hj
  exact(Hy h.2 _ (bB sY)).1
 |e::r,last,h,i+1,j+1,jA,hj=>by
  simp only[dH,Bool.and_eq_true] at h;exact Qg h.2 (i:=i) (j:=j) om (by simpa using hj)
def Bw {l:List ao} (h:bN l=true) {i j:Nat} (jA:i<j) (hj:j<l.length):(ab l i).key<(ab l j).key:=Qg h jA hj
section
variable {l:List ao} {d:ao} {k:Nat} {out:List ao} {done:Bool}
def jT.same (hp:jT l d k done out) (hl:bN l=true) (h:k<l.length) (he:(ab l k).key=d.key):done=false/\jT l d (k+1) true (out++[if ck (ab l k).ar d.ar then d else ab l k]):=by
 have hd:done=false:=by
  cases done
  .rfl
  have:=hp.late rfl k (Nat.le_refl _) h;omega
 subst hd;refine⟨rfl,h,?_,λ_ i hi jE=>?_,by have:=hp.len;simp at this⊢;omega⟩
 .have:=hp.eq;rw[lE h] at this;simp only[eS,if_pos he] at this;rw[this];simp
 rw[<-he];exact Bw hl om jE
def jT.before (hp:jT l d k false out) (hl:bN l=true) (h:k<l.length) (he:d.key<(ab l k).key):jT l d (k+1) true ((out++[d])++[ab l k]):=by
 refine⟨h,?_,λ_ i hi jE=>?_,by have:=hp.len;simp at this⊢;omega⟩
 .have:=hp.eq;rw[lE h] at this;simp only[eS,if_neg (show¬(ab l k).key=d.key by omega),if_pos he] at this;rw[this];simp
 have:=Bw hl (i:=k) (j:=i) om jE;omega
def jT.step (hp:jT l d k done out) (h:k<l.length) (he:(ab l k).key≠d.key) (hn:done=false->(ab l k).key<=d.key):jT l d (k+1) done (out++[ab l k]):=by
 refine⟨h,?_,λhd i hi jE=>hp.late hd i om jE,by have:=hp.len;simp;omega⟩;have:=hp.eq;cases done
 .rw[lE h] at this;have:=hn rfl;simp_all only[eS];simp;omega
 simp only[if_true] at this⊢;rw[this,lE h];simp
def jT.qT (hp:jT l d k true out) (h:l.length<=k):out=eS l d:=by
 have:=hp.eq;rw[List.drop_eq_nil_of_le h] at this;simpa using this.symm
def jT.qU (hp:jT l d k false out) (h:l.length<=k):out++[d]=eS l d:=by
 have:=hp.eq;rw[List.drop_eq_nil_of_le h] at this;simpa[eS] using this.symm
end
def g9 (l:List Int) (key:Int):Bool:=hasB (uK key) l
def pZ (c:Call) (i:Nat):Bool:=eQ (λa=>g9 c.keys a.key) gR c.aA i&&dF (ab c.aA i)
def nA (c:Call):Bool:=de c.aA.length (pZ c)
def If (c:Call) (k:Nat):(!g9 c.keys (ab c.aA k).key||(decide (0<(k:Int))&&decide ((ab c.aA k).key<=(ab c.aA ((k:Int)-1).toNat).key)))=!eQ (λa=>g9 c.keys a.key) gR c.aA k:=by
 rw[<-uy];have e:decide ((ab c.aA k).key<=(ab c.aA ((k:Int)-1).toNat).key)=!gR (ab c.aA ((k:Int)-1).toNat) (ab c.aA k):=by rw[Bool.eq_iff_iff];simp[gR]
 rw[e]
def va (c:Call) (i:Nat):Bool:=wy (ab c.aA i)&&eQ (λa=>g9 c.keys a.key) gR c.aA i
def Ig {c:Call} (h:nA c=true) {i:Nat} (hi:i<c.aA.length):dF (ab c.aA i)=true/\g9 c.keys (ab c.aA i).key=true:=by
 have:=(js.1 h) i hi;unfold pZ eQ at this;simp only[Bool.and_eq_true] at this;exact⟨this.2,this.1.1⟩
def tM:∀{l:List ao} {last:Int},dH last l=true->∀key,bL l key=fK\/dr (bL l key)=true
 |[],_,_,key=>Or.inl rfl
 |e::r,last,h,key=>by
  simp only[dH,Bool.and_eq_true] at h;rw[lq];split
  .exact Or.inr h.1.2
  exact tM h.2 key
def sk {a:Answer} (h:dF a=true):bN a.bm.aR=true:=by
 cases hy:a.yes
 .rw[yQ h hy];rfl
 exact(jv (qK h hy).1).2.2
def Qh (s:Server) (i:Nat) (hc:bY s.an=true):(!(j6 s.an ⟨(ab s.aD i).key,(ab s.aD i).ar⟩).isSome)=!sh s i:=by
 rw[yV hc];simp[sh]
def Ih:∀{l:List aE} {v:aE},(∀x∈l,x.bh≠v.bh)->pM l v=eE l v
 |[],_,_=>rfl
 |x::r,v,h=>by
  have hx:=h x bt;have ih:=Ih (l:=r) (v:=v) λy hy=>h y (by simp[hy]);unfold eE pM;cases h1:gu v x
  .cases h2:gu x v
   .exact absurd (DT h2 h1) hx
   simp[ih]
  rw[show gu x v=false from Y1 h1];simp
section
variable {l:List aE} {v:aE} {k:Nat} {out:List aE} {done:Bool}
def lr.before (hp:lr l v k false out) (h:k<l.length) (he:gu v (ab l k)=true):lr l v (k+1) true ((out++[v])++[ab l k]):=by
 refine⟨h,?_,by have:=hp.len;simp at this⊢;omega⟩;have:=hp.eq;rw[lE h] at this;simp only[pM,if_pos he] at this;rw[this];simp
def lr.step (hp:lr l v k done out) (h:k<l.length) (he:done=true\/gu v (ab l k)=false):lr l v (k+1) done (out++[ab l k]):=by
 refine⟨h,?_,by have:=hp.len;simp;omega⟩;have:=hp.eq;cases done
 .rw[lE h] at this;have he:gu v (ab l k)=false:=he.resolve_left bt;simp only[pM,he] at this;rw[this];simp
 simp only[if_true] at this⊢;rw[this,lE h];simp
def lr.qT (hp:lr l v k true out) (h:l.length<=k):out=pM l v:=by
 have:=hp.eq;rw[List.drop_eq_nil_of_le h] at this;simpa using this.symm
def lr.qU (hp:lr l v k false out) (h:l.length<=k):out++[v]=pM l v:=by
 have:=hp.eq;rw[List.drop_eq_nil_of_le h] at this;simpa[pM] using this.symm
end
def ma (a b:cG):Bool:=uL a b||uL b a||wB a b||wB b a
def Qi {l:List aE} {key:Int} (h:∀i,i<l.length->qE key (ab l i)=false):fq l key=none:=by
 unfold fq;rw[List.find?_eq_none];intro x hx;obtain⟨k,hk,rfl⟩:=g7 (List.mem_reverse.1 hx);rw[h k hk];simp
section
variable {l:List ao} {v:ao} {k:Nat} {out:List ao} {done:Bool}
def mJ.before (hp:mJ l v k false out) (h:k<l.length) (he:ee v (ab l k)=true):mJ l v (k+1) true ((out++[v])++[ab l k]):=by
 refine⟨h,?_,by have:=hp.len;simp at this⊢;omega⟩;have:=hp.eq;rw[lE h] at this;simp only[kq,if_pos he] at this;rw[this];simp
def mJ.step (hp:mJ l v k done out) (h:k<l.length) (he:done=true\/ee v (ab l k)=false):mJ l v (k+1) done (out++[ab l k]):=by
 refine⟨h,?_,by have:=hp.len;simp;omega⟩;have:=hp.eq;cases done
 .rw[lE h] at this;have he:ee v (ab l k)=false:=he.resolve_left bt;simp only[kq,he] at this;rw[this];simp
 simp only[if_true] at this⊢;rw[this,lE h];simp
def mJ.qT (hp:mJ l v k true out) (h:l.length<=k):out=kq l v:=by
 have:=hp.eq;rw[List.drop_eq_nil_of_le h] at this;simpa using this.symm
def mJ.qU (hp:mJ l v k false out) (h:l.length<=k):out++[v]=kq l v:=by
 have:=hp.eq;rw[List.drop_eq_nil_of_le h] at this;simpa[kq] using this.symm
end
def kt (s:Server) (v:aE):Bool:=(dU s v.key==1)&&Bh s v
def eN (s:Server):Int:=if s.an.length<80 then dm (kt s) s.waits else-1
def ka:Nat->Server->Server
 |0,s=>s
 |n+1,s=>if eN s<0 then s else ka n (mK s (eN s).toNat)
def iX (s:Server):Server:=ka s.waits.length s
def fQ (s:Server):Server:=DU (iX s)
def zb {s:Server} (h:0<=eN s):(eN s).toNat<s.waits.length/\s.an.length<80/\kt s (ab s.waits (eN s).toNat)=true:=by
 unfold eN at*;split at h
 .rename_i hl;rw[if_pos hl];unfold dm at*;split at h
  .rename_i k hk;obtain⟨h1,h2,_⟩:=List.findIdx?_eq_some_iff_getElem.1 hk;exact⟨by simpa using h1,hl,by simpa[ab,h1] using h2⟩
  omega
 omega
def Qj {s:Server} (h:0<=eN s):iX s=iX (mK s (eN s).toNat):=by
 have hl:=(zb h).1;unfold iX;rw[HL hl];obtain⟨n,hn⟩:∃n,s.waits.length=n+1:=⟨s.waits.length-1,by omega⟩;rw[hn];show(if eN s<0 then s else _)=_;rw[if_neg om];rfl
def im (s:Server) (m:az):Server×List az:=
 if aS m.aU 10 11&&decide (1<=m.call)&&gf s m.key then
  match j3 s m.key (m.aU-10) m.call with
  |some v=>(s,[mL s m v.ar])
  |none=>if jG (jR s m)&&gH s.an (fk s m)&&decide (s.aD.length<80) then
    (fQ {s with an:=eE s.an (fk s m),aD:=eF s.aD (fk s m).bh},[mL s m (fk s m).ar])
   else(s,[])
 else(s,[])
def iq (s:Server) (m:az):Server×List az:=
 if uR s m then
  let v:=ab m.an 0
  if placeOf s.an v.bh<0/\placeOf s.waits v.bh<0 then
   if gH s.waits v then(fQ {s with waits:=eE s.waits v},[l7 s m v]) else(s,[])
  else(fQ s,[l7 s m v])
 else(s,[])
def mW (s:Server) (m:az):Server:=
 if(m.aU==fj s.site)&&iT s ⟨m.key,m.ar⟩&&decide (s.bj.length<80) then fQ {s with bj:=eF s.bj ⟨m.key,m.ar⟩} else s
def ir (s:Server) (m:az):Server×List az:=
 if(m.aU==fj s.site)&&decide (1<=m.bf) then
  if m.bf<=(ab s.aF m.slot.toNat).bf then(s,[nr s m])
  else if tI s m&&gQ (kr s m) then(fQ (kr s m),[nr s m]) else(s,[])
 else(s,[])
def mX (s:Server) (m:az):Server:=
 if(m.aU==fj s.site)&&((ab s.aF m.slot.toNat).dy==2)&&((ab s.aF m.slot.toNat).bf==m.bf) then fQ (kR s m) else s
def mb (s:Server) (d:ao):az:={cn with kind:=7,aU:=s.site,to:=fj s.site,key:=d.key,ar:=d.ar}
def jj (w:aI) (e:Ev):Call:={yD with aq:=e.aq,num:=tF w.calls e.aq+1,kind:=e.call,keys:=lJ e,val:=if e.call=1 then e.val else 0,ctx:=ab w.seen e.aq.toNat,bE:=w.time}
def Qk (l:List Int) (key:Int):
 Fn prog 210 [iz l,AV.int key] (AV.bool (g9 l key)):=by
 refine Fn.go 9 func210 ntmps210 (λW I a U=>?_);refine aV λI a w U=>?_;refine U.o (.cl (Yp l key)) λU=>?_;refine di ?_;rfl
def Ql (l:List Int) (key:Int):
 Fn prog 148 [iz l,AV.int key] (AV.bool (g9 l key)):=by
 refine Fn.go 18 func148 ntmps148 (λW I a U=>?_);have hle:=U.dE (t:=0) rfl;refine aB λI a w U=>?_;refine St.lo (σ:=Nat) (run 14 4 []) ⟨λk=>[(5,AV.int k)],λk=>[],λk=>k<=l.length/\∀i,i<k->uK key (ab l i)=false⟩ (λk=>l.length-k) 0 U ?aL ?bG;case aL=>exact⟨Nat.zero_le _,λi hi=>by omega⟩
 rintro k I a w al U;obtain⟨hk,aT⟩:=al;refine aY λI a w U=>?_;refine cz (λae=>?_) λae=>?_
 .refine gY λI a w U=>?_;refine U.cd (λah=>?_) λah=>?_
  .refine bc ?_;exact bF (DJ (bB ae) ah).symm
  refine aN λI a w U=>?_;exact U.ag (k+1) (⟨by omega,λi h1=>by rcases Nat.lt_succ_iff_lt_or_eq.1 h1 with h|h;exact aT i h;rw[h];exact ah⟩)
 refine zt ?_;refine bc ?_;exact bF (by unfold g9 hasB;rw[mF om aT];rfl)
def Qm (x:Answer) (key:Int):
 Fn prog 229 [x.av,AV.ptr [AV.int key]] (AV.bool (tH key x)):=by
 refine Fn.go 8 func229 ntmps229 (λW I a U=>?_);refine jf λI a w U=>?_;refine U.rt ?_;rfl
def Qn (q:Call) (key:Int):
 Fn prog 200 [q.av,AV.int key] (AV.int (cB q key)):=by
 refine Fn.go 9 func200 ntmps200 (λW I a U=>?_);refine bA λI a w U=>?_;refine U.o (yd .tt (by first|exact gn rfl|exact en|exact gC|exact gE)) λU=>?_;refine aV λI a w U=>?_;refine U.o (oJ (ai .tt aC)) λU=>?_;refine U.o (.cl (OG q.aA (tH key) _ (λv _=>Fn.val (Qm v key)))) λU=>?_;refine bc ?_;rfl
def Ii (u v:aE):rU u v=(uS u v&&de u.aR.length (DM u v)):=by
 rw[Bool.eq_iff_iff,Bool.and_eq_true,js];obtain⟨a1,⟨a2,a3⟩,a4,a5,a6,a7⟩:=u;obtain⟨b1,⟨b2,b3⟩,b4,b5,b6,b7⟩:=v;simp only[rU,uS,DM,decide_eq_true_eq];constructor
 .intro h;simp at h;obtain⟨rfl,⟨rfl,rfl⟩,rfl,rfl,rfl,rfl⟩:=h;simp
 rintro⟨h1,h2⟩;simp at h1 h2;have:a7=b7:=yE om h2;simp[this];omega
def Qo (q:Call) (k:Nat):(!wy (ab q.aA k)||!g9 q.keys (ab q.aA k).key||(decide (0<(k:Int))&&decide ((ab q.aA k).key<=(ab q.aA ((k:Int)-1).toNat).key)))=!va q k:=by
 unfold va;rw[Bool.or_assoc,If];simp
def ZD (u v:aE):
 Fn prog 75 [u.av,v.av] (AV.bool (rU u v)):=by
 refine Fn.go 65 func75 ntmps75 (λW I a U=>?_);have lens:u.aR.length<=9223372036854775807/\v.aR.length<=9223372036854775807:=by
  obtain⟨cs,_,hc⟩:=U.env 0 _ rfl;obtain⟨u1,_,h1,_⟩:=hc.get (i:=6) rfl;obtain⟨XQ,_,jB⟩:=U.env 1 _ rfl;obtain⟨u2,_,h2,_⟩:=jB.get (i:=6) rfl;exact⟨Ap h1,Ap h2⟩
 refine th λI a w U=>?_;refine U.q .F (rJ [_,_] [_,_] mD rfl rfl .ag .ag) λU=>?_;refine Wo λI a w U=>?_;refine U.cd (λae=>?_) λae=>?_
 .replace ae:uS u v=false:=by unfold uS;rw[ae];rfl
  refine bc ?_;exact bF (by rw[Ii,ae];rfl)
 replace ae:uS u v=true:=by unfold uS;rw[ae];rfl
 refine aY λI a w U=>?_;refine St.lo (σ:=Nat) (run 3 4 (run 13 52 [])) ⟨λk=>[(52,AV.int k)],λk=>[],λk=>k<=u.aR.length/\∀i,i<k->(DM u v) i=true⟩ (λk=>u.aR.length-k) 0 U ?aL ?bG;case aL=>exact⟨Nat.zero_le _,λi hi=>by omega⟩
 rintro k I a w al U;obtain⟨rV,aT⟩:=al;refine ax λI a w U=>?_;refine cz (λah=>?_) λah=>?_
 .refine aV λI a w U=>?_;refine U.alloc rfl cE fh λb6 I a w U=>?_;refine aB λI a w U=>?_;obtain⟨I,U⟩:=U.fb 0 6;refine U.dk ?_;refine dM ?_;refine .o ((by first|exact dW du cE .tt .tt (λ_=>by have:=HC ae;omega)|exact fe du cE .tt .tt (λ_=>by have:=HC ae;omega)|exact fm du cE .tt .tt (λ_=>by have:=HC ae;omega))) ?_;refine aX ?_;refine .o (rJ [_,_,_] [_,_,_] wq rfl rfl .tt .tt)<|.nil ?_;intro I a w U;refine bk ?_;refine U.cd (λaj=>?_) λaj=>?_
  .rw[Pd] at aj;replace aj:=nt aj;refine bc ?_;exact bF (by rw[Ii,fN (f:=DM u v) ah aj];simp)
  rw[Pd] at aj;replace aj:=nf aj;refine aB λI a w U=>?_;have U:=U.drop 0;exact U.ag (k+1) (⟨by omega,gO aT aj⟩)
 refine zt ?_;refine bc ?_;exact bF (by rw[Ii,ae,fJ aT om];rfl)
def ZE (q:Call):
 Fn prog 173 [q.av] (AV.bool (iQ q)):=by
 refine Fn.go 40 func173 ntmps173 (λW I a U=>?_);have lens:q.keys.length<=9223372036854775807/\q.aA.length<=9223372036854775807/\q.aO.length<=9223372036854775807:=⟨U.ln 0 3,U.ln 0 11,U.ln 0 12⟩;refine jf λI a w U=>?_;refine St.lo (σ:=Nat) (run 2 2 (5::(run 11 9 []))) ⟨λk=>[(9,AV.int k),(3,AV.int (uQ q.keys k))],λk=>[],λk=>k<=q.keys.length/\∀i,i<k->eQ df oX q.keys i=true⟩ (λk=>q.keys.length-k) 0 U ?aL ?bG;case aL=>exact⟨Nat.zero_le _,λi hi=>by omega⟩
 rintro k I a w al U;obtain⟨hk,aT⟩:=al;refine ax λI a w U=>?_;refine cz (λae=>?_) λae=>?_
 .refine bO λI a w U=>?_;refine U.o (lz .tt .c (λ_=>by have:=O0 aT;omega)) λU=>?_;refine U.o (.cl (iS ..)) λU=>?_;refine ax λI a w U=>?_;refine U.cd (λah=>?_) λah=>?_
  .rw[O1 aT] at ah;replace ah:=nt ah;refine bc ?_;exact bF (by unfold iQ kK;rw[fN (f:=eQ df oX q.keys) ae ah];rfl)
  rw[O1 aT] at ah;replace ah:=nf ah;refine aY λI a w U=>?_;refine U.again (k+1) ?ij ?ik dD ?il (by repeat(first|exact Env.le_rfl|refine Env.hP rfl ?_));case ij=>omega
  case ik=>exact⟨by omega,gO aT ah⟩
  case il=>exact(Env.dq rfl dD (Env.dq rfl (by exact congrArg AV.int (YE _ _).symm) Env.le_nil))
 refine zt ?_;refine NM λI a w U=>?_;refine U.q .T2 (.cl (iS ..)) λU=>?_;refine tj ?_;exact bF (by unfold iQ kK;rw[fJ aT om];rfl)
def ZF {d q:Call} (h:¬d.aq=q.aq):lM d q=false:=by
 unfold lM;simp[h]
def vb (l:List aE) (h:l.length<=1048576) (hd:∀v∈l,v.aR.length<=1048576):
 iA prog 120 [bQ l] 62 7 (l.map aE.cells):=by
 refine iA.intro 19 func120 rfl ntmps120 rfl aG (λW I a U=>?_);have U:=U.fV (sz:=7) 62;refine ct λI a w U=>?_;refine St.lo (σ:=Nat×Value) (3::(5::(run 10 8 []))) ⟨λ⟨k,v⟩=>[(8,AV.int k),(3,AV.val v)],λ⟨k,v⟩=>[Own.row v 62 7 ((l.take k).map aE.cells)],λ⟨k,v⟩=>k<=l.length⟩ (λ⟨k,v⟩=>l.length-k) (0,.slice none 0 0) U ?aL ?bG;case aL=>exact Nat.zero_le _
 rintro⟨k,v⟩ I a w al U;have hk:k<=l.length:=al;dsimp only at U;refine ax λI a w U=>?_;refine cz (λae=>?_) λae=>?_
 .refine aH λI a w U=>?_;refine U.alloc rfl bU dR λb5 I a w U=>?_;refine ax λI a w U=>?_;obtain⟨I,U⟩:=U.fb 1 5;refine aH λI a w U=>?_;refine U.o (.c1 (wP (ab l k) (hd _ (bB ae)))) λU=>?_;refine U.o (.li [(ab l k).cells] ju (.u .nil)) λU=>?_;refine U.ap 0 λIj a w U=>?_;rw[bV,<-ez ae] at U;refine aN λI a w U=>?_;have U:=U.drop 1;exact U.ag (k+1,Ij) (ae)
 refine zt ?_;refine aB λI a w U=>?_;exact U.qx (r:=2) 0 rfl rfl rfl (by rw[List.take_of_length_le om])
def D8 (l:List aE) (v:aE) (h:l.length<=1048575) (hd:∀u∈l,u.aR.length<=1048576) (hv:v.aR.length<=1048576):
 Fn prog 121 [bQ l,v.av] (bQ (eE l v)):=by
 refine Fn.go 29 func121 ntmps121 (λW I a U=>?_);refine aN λI a w U=>?_;refine St.lo (σ:=Nat) (run 17 5 []) ⟨λk=>[(5,AV.int k)],λk=>[],λk=>k<=l.length/\∀i,i<k->gu (ab l i) v=true⟩ (λk=>l.length-k) 0 U ?aL ?bG;case aL=>exact⟨Nat.zero_le _,λi hi=>by omega⟩
 rintro k I a w al U;obtain⟨hk,aT⟩:=al;refine wp_seq<|wp_seq<|U.dk ?_;refine yv ?_;refine .q .T (.cl (nq ..)) ?_;refine aX ?_;refine .q .T (.cl (nq ..)) ?_;refine .q .T (.cl (DQ ..)) ?_;refine aX ?_;refine .nil ?_;intro I a w U;refine bk ?_;refine cz (λae=>?_) λae=>?_
 .refine aN λI a w U=>?_;exact U.ag (k+1) (⟨by omega,λi h1=>by rcases Nat.lt_succ_iff_lt_or_eq.1 h1 with h|h;exact aT i h;rw[h];exact ae.2⟩)
 refine zt ?_;refine U.da 6 ?_;simp only[TD];refine aX ?_;refine gv.lZ (vb l om hd) (ai .r aC) ?_;refine cj ?_;refine .o (.c1 (wP v hv)) ?_;refine .o (.li [v.cells] ju (.u .nil)) ?_;refine .nil ?_;intro I a w U;obtain⟨D9,U⟩:=U.C9 (d:=23);refine U.eJ [0] (Yo _ (l.map aE.cells) v.cells k (by rw[List.length_map];exact hk) iv (λr hr=>by obtain⟨u,_,rfl⟩:=List.mem_map.1 hr;rfl) rfl) (ai .tt (ai .tt (ai .tt aC))) rfl aM rfl λI a w U=>?_;refine bc ?_;exact congrArg (AV.rows 7) (by rw[<-Px hk aT (λhl=>by rcases ae with h|h;omega;exact h),List.map_append,List.map_cons,List.map_take,List.map_drop])
def ph {l:List aE} (h:bY l=true):∀v∈l,v.aR.length<=6:=λv hv=>eL (jv (gy h v hv)).2.2
def ve {l:List aE} (h:bY l=true):uW l:=⟨by have:=gz h;omega,λv hv=>by have:=eL (DW (gy h v hv));omega⟩
def Bx (s:Server) (h:qO s):
 bT prog 102 [s.av] [] (λ_=>True) s.PF s.Y4:=by
 refine bT.intro 23 func102 rfl ntmps102 rfl aG (λW I a U=>?_);obtain⟨h1,⟨h2,h3⟩,⟨h4,h5⟩,h6,h7⟩:=h;refine bA λI a w U=>?_;refine U.alloc rfl cq dz λb2 I a w U=>?_;refine zt ?_;have U:=U.gF;have U:=U.gF;have U:=U.gF;have U:=U.gF;have U:=U.gF;have U:=U.fV (sz:=2) 46;refine U.wh 20 _ (rp 6 (([6],some (6,[9]))::rp 2 (([1],some (1,[12]))::rp 2 (([2],some (2,[15]))::rp 2 (([3],some (3,[18]))::rp 2 [([4],some (4,[21])),([5],some (5,[22,9,12,15,18,21]))]))))) rfl aG aG rfl ?_;simp only[TD];refine gZ ?_;refine aK.C5 6 rfl rfl fP ew rfl .c .r fT ?_;refine cj ?_;refine aK.lZ 1 rfl rfl (vb s.an h2 h3) (ai .r aC) ?_;refine cj ?_;refine aK.lZ 2 rfl rfl (vb s.waits h4 h5) (ai .r aC) ?_;refine cj ?_;refine aK.lZ 3 rfl rfl (DX s.aD h6) (ai .r aC) ?_;refine cj ?_;refine aK.lZ 4 rfl rfl (DX s.bj h7) (ai .r aC) ?_;refine aK.Dk 5 [9,12,15,18,21] (λa=>AV.agg [AV.int s.site,AV.bool s.up,AV.val (a.tmps.getD 9 undef),AV.val (a.tmps.getD 12 undef),AV.val (a.tmps.getD 15 undef),AV.val (a.tmps.getD 18 undef),AV.val (a.tmps.getD 21 undef)]) rfl rfl rfl rfl (λa b h=>by simp only[List.forall_mem_cons] at h;simp only[h]) rfl (λF a I he=>Ok.to (.bd dz (.k (.k (aW.c Xd rfl .tt (uG (t:=9) he) (aW.c Xf rfl .tt (uG (t:=12) he) (aW.c Xh rfl .tt (uG (t:=15) he) (aW.c Xj rfl .tt (uG (t:=18) he) (aW.c Xl rfl .tt (uG (t:=21) he) aW.nil))))))))) ?_;refine .nil ?_;intro I a w U;change St _ _ [Own.box b2 43 [AV.val (.int .i64 0),AV.val (.bool false),AV.rows 2 [],AV.rows 7 [],AV.rows 7 [],AV.rows 3 [],AV.rows 3 []],Own.row (a.tmps.getD 12 undef) 62 7 (s.an.map aE.cells),Own.row (a.tmps.getD 15 undef) 62 7 (s.waits.map aE.cells),Own.row (a.tmps.getD 18 undef) 115 3 (s.aD.map ao.cells),Own.row (a.tmps.getD 21 undef) 115 3 (s.bj.map ao.cells),Own.is (AV.agg [AV.int s.site,AV.bool s.up,AV.val (a.tmps.getD 9 undef),AV.val (a.tmps.getD 12 undef),AV.val (a.tmps.getD 15 undef),AV.val (a.tmps.getD 18 undef),AV.val (a.tmps.getD 21 undef)]) (a.tmps.getD 22 undef),Own.row (a.tmps.getD 9 undef) 46 2 (s.aF.map cG.cells)] _ _ _ at U;have U:=U.Dl (d:=22) 5 rfl;generalize a.tmps.getD 9 undef=v9 at U;generalize a.tmps.getD 12 undef=ZG at U;generalize a.tmps.getD 15 undef=Ik at U;generalize a.tmps.getD 18 undef=wY at U;generalize a.tmps.getD 21 undef=Ea at U;show wpList _ _ _ _ _ _;refine ax λI a w U=>?_;exact U.bJ (v9,ZG,Ik,wY,Ea) [6,1,2,3,4] rfl (.cons (.s 0 cq rfl rfl (by first|rfl|assumption)) .nil) trivial rfl rfl
def tN (s:Server) (h:qO s):Fn prog 102 [s.av] s.av:=(Bx s h).frozen λr c I a w _ U=>by
 obtain⟨I,U⟩:=U.fa 0 0 2;obtain⟨I,U⟩:=U.fa 1 0 3;obtain⟨I,U⟩:=U.fa 2 0 4;obtain⟨I,U⟩:=U.fa 3 0 5;obtain⟨I,U⟩:=U.fa 4 0 6;exact⟨_,_,_,U⟩
def By (m:az) (h:jU m):
 Fn prog 164 [m.av] (m.av):=by
 refine Fn.go 20 func164 ntmps164 (λW I a U=>?_);obtain⟨h1,⟨h2,h3⟩,⟨h4,h5⟩,h6⟩:=h;refine sr<|U.box rfl .tt λb1 I a w U=>U.alloc rfl dj dN λb2 I a w U=>?_;refine zt ?_;refine U.dt 13 ?_;simp only[TD];refine cj ?_;refine .o (.cl (tJ m.aR h1)) ?_;refine cj ?_;refine .o (cr (iA.fn (vb m.an h2 h3)) (ai .r aC)) ?_;refine cj ?_;refine .o (cr (iA.fn (vb m.waits h4 h5)) (ai .r aC)) ?_;refine cj ?_;refine .o (.cl (tJ m.aD h6)) ?_;refine aX ?_;refine .nil ?_;intro I a w U;refine mA λI a w U=>?_;refine U.ret rfl (.cons (.sx 1) ba.nil) ?_;rfl
def Eb {l:List aE} (v:aE) (hc:bY l=true):(!ef v||(j6 l ⟨v.key,v.ar⟩).isSome||decide (80<=(l.length:Int)))=!gH l v:=by
 rw[yV hc];have e:decide (80<=(l.length:Int))=!decide (l.length<80):=by rw[Bool.eq_iff_iff];simp;omega
 have e2:decide (0<=placeOf l ⟨v.key,v.ar⟩)=!decide (placeOf l v.bh<0):=by
  show decide (0<=placeOf l v.bh)=_;rw[Bool.eq_iff_iff];simp
 unfold gH;rw[e,e2];simp
def Qp (l:List aE) (key:Int) (hc:bY l=true):
 Fn prog 221 [bQ l,AV.int key] (AV.db [((fq l key).getD default).av,AV.bool (fq l key).isSome]):=by
 refine Fn.go 31 func221 ntmps221 (λW I a U=>?_);have hle:=U.dE (t:=0) rfl;have zc:=gz hc;refine sr<|U.alloc rfl bU dR λb4 I a w U=>?_;refine aH λI a w U=>?_;refine U.o (.cl (tv ..)) λU=>?_;refine ax λI a w U=>?_;refine U.cd (λae=>?_) λae=>?_
 .exfalso;rw[hc] at ae;cases ae;skip
 refine aY λI a w U=>?_;refine St.lo (σ:=Nat) (run 2 5 (run 16 14 [])) ⟨λj=>[(6,AV.int ((j:Int)-1))],λj=>[Own.box b4 62 [AV.val (.int .i64 0),AV.val (.int .i64 0),AV.val (.int .i64 0),AV.val (.int .i64 0),AV.val (.int .i64 0),AV.val (.int .i64 0),AV.rows 3 []]],λj=>j<=l.length/\∀i,j<=i->i<l.length->qE key (ab l i)=false⟩ (λj=>j) l.length U ?aL ?bG;case aL=>exact⟨Nat.le_refl _,λi h1 h2=>by omega⟩
 rintro j I a w al U;obtain⟨hk,aT⟩:=al;refine aB λI a w U=>?_;refine cz (λah=>?_) λah=>?_
 .refine jf λI a w U=>?_;refine U.cd (λaj=>?_) λaj=>?_
  .refine bz λI a w U=>?_;refine U.o (cr (lN _ (by have:=ph hc _ (bB (k:=((j:Int)-1).toNat) om);omega)) (ai (.t rfl) aC)) λU=>?_;refine aB λI a w U=>?_;refine U.ret rfl (.cons (.sx 0) (.cons (.t rfl) ba.nil)) ?_;exact(by rw[OM (k:=((j:Int)-1).toNat) om (λi h1 h2=>aT i om h2) aj];rfl)
  refine aN λI a w U=>?_;refine U.again (j-1) ?ij ?ik dD ?il (by repeat(first|exact Env.le_rfl|refine Env.hP rfl ?_));case ij=>omega
  case ik=>exact⟨by omega,λi h1 h2=>by by_cases h:i=((j:Int)-1).toNat;(subst h;exact aj);exact aT i om h2⟩
  case il=>exact(Env.dq rfl (by first|rfl|exact congrArg AV.int om) Env.le_nil)
 refine zt ?_;refine U.o (.bd dR aW.nil) λU=>?_;refine aB λI a w U=>?_;refine U.ret rfl (.cons (.sx 0) (.cons (.t rfl) ba.nil)) ?_;exact(by rw[Qi λi h=>aT i om h];rfl)
def Ec (l:List aE) (slot:Int) (hc:bY l=true):
 Fn prog 227 [bQ l,AV.int slot] (AV.db [bQ (l.filter (eC slot)),bQ (l.filter (λv=>!eC slot v))]):=by
 refine Fn.go 48 func227 ntmps227 (λW I a U=>?_);have hle:=U.dE (t:=0) rfl;have zc:=gz hc;have dV:=ph hc;refine aB λI a w U=>?_;refine U.l0 λb9 I a w U=>?_;refine ax λI a w U=>?_;refine U.l0 λkS I a w U=>?_;refine aH λI a w U=>?_;refine U.o (.cl (tv ..)) λU=>?_;refine ax λI a w U=>?_;refine U.cd (λae=>?_) λae=>?_
 .exfalso;rw[hc] at ae;cases ae;skip
 refine ax λI a w U=>?_;refine St.lo (σ:=Nat×Value×Value) (run 3 6 (run 30 16 [])) ⟨λ⟨k,u,v⟩=>[(8,AV.int k),(6,AV.val u),(7,AV.val v)],λ⟨k,u,v⟩=>[Own.row u 62 7 (((l.take k).filter (eC slot)).map aE.cells),Own.row v 62 7 (((l.take k).filter (λv=>!eC slot v)).map aE.cells)],λ⟨k,u,v⟩=>k<=l.length⟩ (λ⟨k,u,v⟩=>l.length-k) (0,.slice (some ⟨b9,0,none⟩) 0 0,.slice (some ⟨kS,0,none⟩) 0 0) U ?aL ?bG;case aL=>exact Nat.zero_le _
 rintro⟨k,u,v⟩ I a w al U;have hk:k<=l.length:=al;have Qq:=rX (eC slot) l k;have Qr:=rX (λv=>!eC slot v) l k;dsimp only at U;refine aY λI a w U=>?_;refine cz (λah=>?_) λah=>?_
 .refine bO λI a w U=>?_;refine U.o (.c1 (uJ ..)) λU=>?_;refine aB λI a w U=>?_;refine U.cd (λaj=>?_) λaj=>?_
  .change eC slot (ab l k)=true at aj;refine bO λI a w U=>?_;refine U.o (cr (lN _ (by have:=dV _ (bB ah);omega)) (ai (.t rfl) aC)) λU=>?_;refine U.o (.li [(ab l k).cells] ju (.u .nil)) λU=>?_;refine U.ap 0 λtO a w U=>?_;rw[bV,<-nu ah aj,show(l.take k).filter (λv=>!eC slot v)=(l.take (k+1)).filter (λv=>!eC slot v) from(nv ah (by show(!eC slot _)=false;rw[aj];rfl)).symm] at U;refine aY λI a w U=>?_;exact U.ag (k+1,tO,v) (ah)
  change eC slot (ab l k)=false at aj;refine bO λI a w U=>?_;refine U.o (cr (lN _ (by have:=dV _ (bB ah);omega)) (ai (.t rfl) aC)) λU=>?_;refine U.o (.li [(ab l k).cells] ju (.u .nil)) λU=>?_;refine U.ap 1 λIl a w U=>?_;rw[bV,<-nu (p:=(λv=>!eC slot v)) ah (by show(!eC slot _)=true;rw[aj];rfl),show(l.take k).filter (eC slot)=(l.take (k+1)).filter (eC slot) from(nv ah aj).symm] at U;refine aY λI a w U=>?_;exact U.ag (k+1,u,Il) (ah)
 refine zt ?_;refine aY λI a w U=>?_;obtain⟨I,U⟩:=U.fr 0 4;obtain⟨I,U⟩:=U.fr 1 5;refine U.rt ?_;exact(by rw[List.take_of_length_le om];rfl)
def eM.small {s:Server} (h:eM s) (ho:s.aD.length<=1048576):qO s:=⟨by have:=h.aF;omega,ve h.an,ve h.waits,ho,by have:=h.bj;omega⟩
def ZH {s:Server} {k:Nat} (p6:s.an.length<80) (hk:k<s.waits.length) (h:∀i,i<k->kt s (ab s.waits i)=false) (hp:kt s (ab s.waits k)=true):eN s=k:=by
 unfold eN;rw[if_pos p6];exact ng hk h hp
def ZI {s:Server} (h:s.an.length<80->∀i,i<s.waits.length->kt s (ab s.waits i)=false):eN s<0:=by
 unfold eN;split
 .rename_i p6;rw[mF (k:=s.waits.length) (Nat.le_refl _) (h p6)];omega
 omega
def Qs:∀(n:Nat) (s:Server),(ka n s).site=s.site/\(ka n s).up=s.up/\(ka n s).aF=s.aF/\(ka n s).aD=s.aD/\(ka n s).bj=s.bj
 |0,s=>⟨rfl,rfl,rfl,rfl,rfl⟩
 |n+1,s=>by
  unfold ka;split
  .exact⟨rfl,rfl,rfl,rfl,rfl⟩
  obtain⟨a,b,d,e,f⟩:=Qs n (mK s (eN s).toNat);exact⟨a,b,d,e,f⟩
def zd {α:Type} [Inhabited α] {p:α->Bool} {l:List α}:(de l.length λi=>p (ab l i))=true↔∀x∈l,p x=true:=by
 rw[js];exact⟨λh x hx=>by obtain⟨k,hk,rfl⟩:=g7 hx;exact h k hk,λh i hi=>h _ (bB hi)⟩
def wZ {l:List aE} {d:ao}:0<=placeOf l d↔∃x∈l,x.bh=d:=by
 constructor
 .intro h;obtain⟨h1,h2⟩:=Bf h;exact⟨_,bB h1,h2⟩
 rintro⟨x,hx,he⟩;apply Int.not_lt.1;intro hn;exact pT hn x hx he
def ZJ {s:Server} {v:aE} (h:kt s v=true):dU s v.key=1:=by
 unfold kt at h;rw[Bool.and_eq_true] at h;simpa using h.1
def ZK (s:Server):(iX s).site=s.site/\(iX s).up=s.up/\(iX s).aF=s.aF/\(iX s).aD=s.aD/\(iX s).bj=s.bj:=Qs _ s
def ze (s:Server):(fQ s).site=s.site/\(fQ s).up=s.up/\(fQ s).aF=s.aF/\(fQ s).aD=s.aD:=by
 obtain⟨a,b,d,e,_⟩:=ZK s;exact⟨a,b,d,e⟩
def Qt {s:Server} (h:bH s):bH (ll s):=⟨h.site,h.aF,h.an,h.waits,h.aD,rfl,λ_=>rfl,h.bD,h.here,h.pV,h.pW,h.apart,h.pf⟩
def Qu {s:Server} {m:az} (h:bH s) (hm:bM m=true) {v:aE} (hv:ef v=true):bM (l7 s m v)=true:=by
 have p:=ny hm;have q:=jv hv;exact tp ⟨by simp[l7],by simp[l7]⟩ (pN h.site) p.2.1 ⟨by simp[l7,cn],by simp[l7,cn]⟩ q.1 (Bm q.2.1) ⟨by simp[l7,cn],by simp[l7,cn]⟩ rZ ⟨by simp[l7,cn],by simp[l7,cn]⟩ ⟨by simp[l7,cn],by simp[l7,cn]⟩ pO pO wC
def ZL {s:Server} {m:az} (h:bH s) (hm:bM m=true):∀w∈(iq s m).2,bM w=true:=by
 unfold iq;split
 .rename_i hr;have hv:ef (ab m.an 0)=true:=gy (nx hm).1 _ (bB (by rw[(Bd hr).2.2.1];omega));dsimp only;split
  .split
   .intro w hw;obtain rfl:w=_:=by simpa using hw
    exact Qu h hm hv
   intro w hw;simp at hw
  intro w hw;obtain rfl:w=_:=by simpa using hw
  exact Qu h hm hv
 intro w hw;simp at hw
def Qv {s:Server} {m:az} (h:bH s) (hm:bM m=true):bM (nr s m)=true:=by
 have p:=ny hm;exact tp ⟨by simp[nr],by simp[nr]⟩ (pN h.site) p.2.1 ⟨by simp[nr,cn],by simp[nr,cn]⟩ Hp A1 ⟨by simp[nr,cn],by simp[nr,cn]⟩ rZ p.2.2.2.2.2.2.2.2.1 p.2.2.2.2.2.2.2.2.2.1 pO pO wC
def ZM {s:Server} {m:az} (h:bH s) (hm:bM m=true):∀w∈(ir s m).2,bM w=true:=by
 unfold ir;split
 .split
  .intro w hw;obtain rfl:w=_:=by simpa using hw
   exact Qv h hm
  split
  .intro w hw;obtain rfl:w=_:=by simpa using hw
   exact Qv h hm
  intro w hw;simp at hw
 intro w hw;simp at hw
def w3 {m:az} (h:bM m=true):jU m:=by
 have p:=ny h;refine⟨by have:=eL p.2.2.2.2.2.2.2.1;omega,ve p.2.2.2.2.2.2.2.2.2.2.1,ve p.2.2.2.2.2.2.2.2.2.2.2.1,by have:=iR p.2.2.2.2.2.2.2.2.2.2.2.2;omega⟩
def so (c:Call) (d:ao):Bool:=decide (0<=cB c d.key)&&np (ab c.aA (cB c d.key).toNat) d.ar
def Qw {a:Answer} (h:dF a=true):ck a.bm.ar fK=false:=by
 cases hy:a.yes
 .rw[yQ h hy];rfl
 exact O4 (tC (jv (qK h hy).1).2.1)
def Io (tn:List ao) (U:∀key,tD (bL tn key)):∀{l:List Answer} {last:Int},(l.Pairwise λa b=>gR a b=true)->(∀a∈l,last<a.key/\a.key<=5)->(∀a∈l,dF a=true)->dH last (l.map (ni tn)).flatten=true
 |[],_,_,_,_=>rfl
 |a::r,last,hp,hk,hg=>by
  rw[List.pairwise_cons] at hp;rw[List.map_cons,List.flatten_cons];have ha:=hk a bt;have pF:∀x∈r,dF x=true:=λx hx=>hg x (by simp[hx]);unfold ni;split
  .rename_i hl;have cV:dr (bL tn a.key)=true:=by
    rcases U a.key with e|e
    .rw[e,Qw (hg a bt)] at hl;cases hl
    exact e
   show(aS a.key (last+1) 5&&dr (bL tn a.key)&&dH a.key _)=true;rw[cV,show aS a.key (last+1) 5=true by simp[aS];omega,Bool.true_and,Bool.true_and];exact Io tn U hp.2 (λx hx=>⟨by have:=hp.1 x hx;unfold gR at this;rwa[decide_eq_true_eq] at this,(hk x (by simp[hx])).2⟩) pF
  rw[List.nil_append];exact Io tn U hp.2 (λx hx=>hk x (by simp[hx])) pF
def Qx {l:List ao} (h:bN l=true) {a b:ao} (ha:a∈l) (hb:b∈l) (he:a.key=b.key):a=b:=by
 obtain⟨i,hi,rfl⟩:=g7 ha;obtain⟨j,hj,rfl⟩:=g7 hb;rcases Nat.lt_trichotomy i j with bK|rfl|bK
 .have:=Bw h bK hj;omega
 .rfl
 have:=Bw h bK hi;omega
def Ed {q:Call} {m:az} (hm:bM m=true) (hv:m.yes=true->m.an.length=1/\(ab m.an 0).key=m.key):dF (dK m)=true:=by
 unfold dF dK;dsimp only;cases hy:m.yes
 .simp[rU]
 obtain⟨h1,h2⟩:=hv hy;have:=gy (nx hm).1 _ (bB (l:=m.an) (k:=0) om);simp[this,h2]
def zf (s:Server):(fQ s).site=s.site:=(ze s).1
def ZN (s:Server) (m:az):(im s m).1.site=s.site:=by
 unfold im;split
 .split
  .rfl
  split
  .exact zf _
  rfl
 rfl
def ZO (s:Server) (m:az):(iq s m).1.site=s.site:=by
 unfold iq;split
 .dsimp only;split
  .split
   .exact zf _
   rfl
  exact zf _
 rfl
def ZP (s:Server) (m:az):(ir s m).1.site=s.site:=by
 unfold ir;split
 .split
  .rfl
  split
  .exact zf _
  rfl
 rfl
def Qy {l:List aE} (v:aE) (h:bY l=true):(ef v&&decide (placeOf l v.bh<0)&&!decide (l.length=80))=gH l v:=by
 have hl:=gz h;have e:(!decide (l.length=80))=decide (l.length<80):=by rw[Bool.eq_iff_iff];simp;omega
 unfold gH;rw[e]
def tP (s:Server) (m x:az) (h:jU x):
 Fn prog 246 [s.av,m.av,x.av] (cQ [{x with aU:=s.site,to:=m.aU}]):=by
 refine Fn.go 16 func246 ntmps246 (λW I a U=>?_);refine aH λI a w U=>?_;refine U.box rfl .tt λb5 I a w U=>?_;refine ax λI a w U=>?_;refine U.dh (rp 5 [([0],some (0,[])),([],none),([0],some (0,[]))]) aG aG rfl ?_;refine fD ?_;refine aK.cX (x:=AV.any) 0 (λF W0 I0 I a w Q U kk=>U.s1 0 λU=>kk _ _ _ U) ?_;refine aX ?_;refine aK.cX (x:=AV.any) 0 (λF W0 I0 I a w Q U kk=>U.s1 0 λU=>kk _ _ _ U) ?_;refine .nil ?_;intro I a w U;refine bA λI a w U=>?_;refine U.o (.c1 (By {x with aU:=s.site,to:=m.aU} h)) λU=>?_;refine U.o (.li [({x with aU:=s.site,to:=m.aU}:az).cells] gw (.u .nil)) λU=>?_;refine bc ?_;rfl
def Qz (s:Server) (v:aE):(((ab s.aF (cW v.key).toNat).dy !=1)||!Bh s v)=!kt s v:=by
 unfold kt dU;simp only[bne];cases((ab s.aF (cW v.key).toNat).dy==1)<;>simp
def ZQ {u u2:Server} {g2:Bool} {i:Nat} (hf:g2=false->u=u2/\i<=u.waits.length/\(u.an.length<80->∀j,j<i->kt u (ab u.waits j)=false))
 (ht:g2=true->0<=eN u/\u2=mK u (eN u).toNat):2*u2.waits.length+g2.toNat<2*u.waits.length+true.toNat:=by
 cases g2 with
 |true=>
  obtain⟨h1,rfl⟩:=ht rfl
  have:=(zb h1).1
  rw[HL this];simp;omega
 |false=>
  obtain⟨rfl,h1,h2⟩:=hf rfl
  simp
def ZR {s:Server} (h:eM s) {i:Nat} (hi:i<s.waits.length) (hn:gH s.an (ab s.waits i)=false):80<=s.an.length:=by
 have h1:=gy h.waits _ (bB hi);have h2:=h.apart _ (bB hi);unfold gH at hn;rw[h1] at hn;simp only[Bool.true_and,Bool.and_eq_false_iff,decide_eq_false_iff_not] at hn;rcases hn with hn|hn
 .exact absurd h2 hn
 omega
def Bz {l:List aE} (h:bY l=true) (d:ao):j6 l d=iI l d:=by unfold j6 iI;simp[h]
def QA {l vs:List aE} {k:Nat} (hk:k<vs.length) (hp:¬placeOf l (ab vs k).bh<0):iU l (vs.take k)=iU l (vs.take (k+1)):=by
 rw[D0 hk,gS,if_neg];intro hn;obtain⟨x,hx,e⟩:=wZ.1 (show 0<=placeOf l (ab vs k).bh by omega);exact pT hn x (PU hx) e
def QB {s:Server} (h:¬s.an.length<80):eN s<0:=by unfold eN;rw[if_neg h];decide
def ZS {s:Server} (h:s.an.length<80):eN s=dm (kt s) s.waits:=by unfold eN;rw[if_pos h]
def ZT {s:Server} {m:az} (h:((m.aU==fj s.site)&&decide (1<=m.bf))=false):ir s m=(s,[]):=by unfold ir;rw[h];rfl
def QC {s:Server} {m:az} (h:((m.aU==fj s.site)&&decide (1<=m.bf))=true) (h2:m.bf<=(ab s.aF m.slot.toNat).bf):ir s m=(s,[nr s m]):=by unfold ir;rw[h,if_pos rfl,if_pos h2]
def Ip {s:Server} {m:az} (h:((m.aU==fj s.site)&&decide (1<=m.bf))=true) (h2:¬m.bf<=(ab s.aF m.slot.toNat).bf) (h3:(tI s m&&gQ (kr s m))=false):ir s m=(s,[]):=by unfold ir;rw[h,if_pos rfl,if_neg h2,h3];rfl
def QD {s:Server} {m:az} (h:((m.aU==fj s.site)&&decide (1<=m.bf))=true) (h2:¬m.bf<=(ab s.aF m.slot.toNat).bf) (h3:(tI s m&&gQ (kr s m))=true):ir s m=(fQ (kr s m),[nr s m]):=by unfold ir;rw[h,if_pos rfl,if_neg h2,h3];rfl
def QE {s:Server} (h:bH s) {d:ao} (hd:d∈s.aD):∃v,iI s.an d=some v/\v.key=d.key/\v∈s.an:=by
 obtain⟨x,hx,e⟩:=h.pf d hd;have hp:=wZ.2 ⟨x,hx,e⟩;obtain⟨h1,h2⟩:=Bf hp;refine⟨ab s.an (placeOf s.an d).toNat,by unfold iI;rw[if_pos hp],congrArg ao.key h2,bB h1⟩
def zh {s:Server} (h:∀v∈s.waits,v.aR.length<=6):∀i,i<=s.waits.length->(mQ s i).length<=6*i
 |0,_=>by simp[mQ]
 |i+1,hi=>by
  have h1:=zh h i om;have h2:=Bo s i (ab s.waits i).aR.length;have h3:=h _ (bB (l:=s.waits) (k:=i) om);rw[<-HP om (Nat.le_refl _)];omega
structure Ext (w x:aI):Prop where
 eO:∀{σ v},cF w σ v->cF x σ v
 cont:∀{σ v},mI w σ v->mI x σ v
 ep:∀i,i<4->∀k,k<3->ep w i k<=ep x i k
 calls:∀q∈w.calls,∃p∈x.calls,kQ q p
def Iq {x y:cG} (h:ma x y=true) (hx:x.dy=1):y.dy≠1/\y.bf<=x.bf:=by
 unfold ma uL wB at h;simp only[Bool.or_eq_true,Bool.and_eq_true,beq_iff_eq,bne_iff_ne,decide_eq_true_eq] at h;omega
def QF {s t:Server} {k:Nat} (h:ma (ab s.aF k) (ab t.aF k)=true) (U:(ab s.aF k).dy=1):¬behind s t k:=by
 have:=Iq h U;unfold behind;omega
def QG {s t:Server} {k:Nat} (h:ma (ab s.aF k) (ab t.aF k)=true) (U:(ab s.aF k).dy=1):behind t s k:=by
 have:=Iq h U;unfold behind;omega
def ZU {s t:Server} {k:Nat} (h:ma (ab s.aF k) (ab t.aF k)=true):behind s t k\/behind t s k:=by
 unfold ma uL wB at h;simp only[Bool.or_eq_true,Bool.and_eq_true,beq_iff_eq,bne_iff_ne,decide_eq_true_eq] at h;unfold behind;omega
def QH {s t:Server} {k:Nat} (h:ma (ab s.aF k) (ab t.aF k)=true) (hb:behind s t k):¬behind t s k:=by
 unfold ma uL wB at h;simp only[Bool.or_eq_true,Bool.and_eq_true,beq_iff_eq,bne_iff_ne,decide_eq_true_eq] at h;unfold behind at*;omega
def Ext.refl (w:aI):Ext w w:=⟨id,id,λ_ _ _ _=>Int.le_refl _,λq hq=>⟨q,hq,kQ.refl q⟩⟩
def Ee:∀{l:List ao} {key:Int},bL l key=fK\/(⟨key,bL l key⟩:ao)∈l
 |[],_=>.inl rfl
 |d::r,key=>by
  rw[lq];split
  .rename_i e;right;rw[<-e];exact List.mem_cons_self ..
  rcases Ee (l:=r) (key:=key) with h|h
  .exact .inl h
  exact .inr (List.mem_cons_of_mem _ h)
def QI (a b:cw):ck (dA a b) b=false:=by
 unfold dA;split
 .exact Bp b
 rename_i h;simpa using h
def Ef {a b d:List ao} (h:uO a b) (h':uO b d):uO a d:=λkey=>D2 (h key) (h' key)
def QJ {l:List ao} {d:ao} (h:bN l=true) (hd:iP d=true):bN (eS l d)=true:=wW h hd
end Go.Proofs.YtdanidpleofjgaaGreat
