/- Part 13: contracts of functions, plain facts. -/
import Derived.Test.YtjepcfpkclegdaaGreatP06
import Derived.Test.YtjepcfpkclegdaaGreatP07
import Derived.Test.YtjepcfpkclegdaaGreatP08
import Derived.Test.YtjepcfpkclegdaaGreatP09
set_option linter.unusedVariables false
set_option linter.unusedSimpArgs false
set_option maxRecDepth 100000
set_option maxHeartbeats 4000000
namespace Go.Proofs.YtjepcfpkclegdaaGreat
open Go Go.RowKit
attribute [local irreducible] wpList Code.wp Ok
theorem PF (s:cw):
 Fn Tryz.prog 80 [s.av] (AV.bool (kx s)):=by
 refine Fn.go 9 Tryz.func80 Tryz.ntmps80 (λW I a U=>?_)
 refine bk λI a w U=>?_
 refine U.o (.c1 (vf ..)) λU=>?_
 refine aF λI a w U=>?_
 refine U.q .F (.cl (yq ..)) λU=>?_
 refine aA λI a w U=>?_
 refine U.rt ?_
 rfl
theorem pe {l:List au} (h:bN l=true) {d:au} (hd:d∈l):lh d=true:=by
 have:=CL h d hd
 simp[lh,dp,aQ,this.2.2];omega
theorem PG {a b:List au} (ha:bN a=true) (hb:bN b=true) (k:Nat):bN (iK a (b.take k))=true:=
 wT ha λd hd=>pe hb (List.mem_of_mem_take hd)
theorem PH {l:List au} {key:Int} {k:Nat} (hk:l.length<=k) (h:∀i,i<k->pF key (ab l i)=false):bx l key=⟨0,0⟩:=by
 have:l.find? (pF key)=none:=by
  rw[List.find?_eq_none]
  intro x hx
  obtain⟨i,hi,rfl⟩:=gq hx
  rw[h i (by omega)];simp
 unfold bx;rw[this]
def gU (l:List Int) (key:Int):Bool:=hasB (vg key) l
def pU (c:Call) (i:Nat):Bool:=eQ (λa=>gU c.keys a.key) gJ c.az i&&dB (ab c.az i)
def oF (c:Call):Bool:=cF c.az.length (pU c)
def pV (c:Call):Bool:=oF c&&cF c.aP.length (qx c)&&(((c.aP.length:Int)==0)||pP c)
def m8 (c:Call) (time:Int):Bool:=ff c.an&&aQ c.num 1 99&&iZ c&&aQ c.val 0 9999&&bN c.ctx&&bN c.aP&&aQ c.bD 1 time&&kx c.aq&&pV c
def eX (c:Call) (time:Int):Bool:=m8 c time&&yi c&&ox c time
theorem HP (c:Call) (k:Nat):(!gU c.keys (ab c.az k).key||(decide (0<(k:Int))&&decide ((ab c.az k).key<=(ab c.az ((k:Int)-1).toNat).key)))=!eQ (λa=>gU c.keys a.key) gJ c.az k:=by
 rw[<-uK]
 have e:decide ((ab c.az k).key<=(ab c.az ((k:Int)-1).toNat).key)=!gJ (ab c.az ((k:Int)-1).toNat) (ab c.az k):=by rw[Bool.eq_iff_iff];simp[gJ]
 rw[e]
theorem PI (c:Call) (time:Int):(!ff c.an||!aQ c.num 1 99||!iZ c||!aQ c.val 0 9999||!bN c.ctx||!bN c.aP||!aQ c.bD 1 time||!kx c.aq||!pV c)=!m8 c time:=by simp[m8]
def vp (c:Call) (i:Nat):Bool:=wB (ab c.az i)&&eQ (λa=>gU c.keys a.key) gJ c.az i
theorem Dr {α:Type} [Inhabited α] {p:α->Bool} {l:List α} {x:α} (h:x∈l) (hp:p x=true):hasB p l=true:=by
 simp only[hasB,decide_eq_true_eq]
 rcases Int.lt_or_le (cM p l) 0 with hn|hn
 ·obtain⟨k,hk,rfl⟩:=gq h
  rw[AD hn k hk] at hp;cases hp
 ·exact hn
theorem yO {l:List Int} {n:Int}:gU l n=true↔n∈l:=by
 constructor
 ·intro h
  obtain⟨x,hx,he⟩:=Gv h
  simp[vg] at he;exact he▸hx
 ·exactλh=>Dr h (by simp[vg])
theorem ZU {c:Call} (h:lI c.keys=true) (i:Nat):vp c i=pU c i:=by
 unfold vp pU
 cases h1:eQ (λa=>gU c.keys a.key) gJ c.az i
 ·simp
 ·have h2:gU c.keys (ab c.az i).key=true:=by unfold eQ at h1;rw[Bool.and_eq_true] at h1;exact h1.1
  have:=yv h (yO.1 h2)
  unfold wB dB
  cases(ab c.az i).yes<;>simp[this]
theorem HQ {c:Call} (h:oF c=true) {i:Nat} (hi:i<c.az.length):dB (ab c.az i)=true/\gU c.keys (ab c.az i).key=true:=by
 have:=(gx.1 h) i hi
 unfold pU eQ at this
 simp only[Bool.and_eq_true] at this
 exact⟨this.2,this.1.1⟩
theorem vq {c:Call} {key:Int} (h:0<=cv c key):(cv c key).toNat<c.az.length:=by
 have:=AB (tE key) c.az
 unfold cv at*;omega
theorem HR {a:Answer} {s:cw} (h:dB a=true) (U:db s=true):mT a s=bP a.be.aq s:=by
 unfold dB at h
 unfold mT
 cases hy:a.yes
 ·rw[hy] at h
  simp[pD] at h
  have:=om U
  rw[h,show bP rR.aq s=true from GP this];rfl
 ·simp
theorem ZV {c:Call} (h:oF c=true) (hd:bN c.aP=true) {i:Nat} (hi:i<c.aP.length):u4 c i=qx c i:=by
 unfold u4 qx
 by_cases hg:0<=cv c (ab c.aP i).key
 ·have h2:=pe hd (aV hi)
  simp only[lh,Bool.and_eq_true] at h2
  rw[HR (HQ h (vq hg)).1 h2.2]
 ·simp[hg]
theorem HT {c:Call} (hk:lI c.keys=true) (h:oF c=true):c.az.length<=c.keys.length:=
 CM (f:=Answer.key) (NM hk) (NL λi h0 hi=>by
  have:=(gx.1 h) i hi
  unfold pU eQ at this
  simp[gJ] at this
  have h1:=this.1.2
  omega) λa ha=>by
  obtain⟨k,eY,rfl⟩:=gq ha
  exact yO.1 (HQ h eY).2
theorem xe (c:Call) (time:Int):eX c time=(qB c time&&yj c&&cF c.az.length (vp c)&&CT c&&cF c.aP.length (u4 c)&&CN c time):=by
 have e0:aQ c.an 0 1=ff c.an:=rfl
 cases eD:iZ c
 ·have h1:eX c time=false:=by simp[eX,m8,eD]
  have h2:qB c time=false:=by
   rw[<-NN] at eD
   unfold qB
   cases h3:aQ c.kind 1 2
   ·simp
   ·rw[h3,Bool.true_and] at eD;rw[eD];simp
  rw[h1,h2];simp
 ·have Ds:lI c.keys=true:=by unfold iZ at eD;rw[Bool.and_eq_true] at eD;exact eD.1
  have lP:=eD
  rw[<-NN,Bool.and_eq_true] at lP
  have PJ:c.kind=1\/c.kind=2:=by have:=lP.1;simp[aQ] at this;omega
  have e1:cF c.az.length (vp c)=oF c:=xS rfl λi _=>ZU Ds i
  rw[e1]
  cases hg:oF c
  ·simp[eX,m8,pV,hg]
  ·have hle:=HT Ds hg
   cases cy:bN c.aP
   ·simp[eX,m8,qB,cy]
   ·have e2:cF c.aP.length (u4 c)=cF c.aP.length (qx c):=xS rfl λi hi=>ZV hg cy hi
    rw[e2]
    unfold eX m8 pV yi ox qB yj CT CN
    rw[e0,eD,lP.1,lP.2,hg,cy]
    generalize ff c.an=b1
    generalize aQ c.num 1 99=b2
    generalize bN c.ctx=b4
    generalize aQ c.bD 1 time=b5
    generalize cF c.aP.length (qx c)=b6
    generalize aQ c.end_ (c.bD+1) time=b7
    have e3:(decide (0<c.val)&&aQ c.val 0 9999)=((c.val !=0)&&aQ c.val 0 9999):=by
     rw[Bool.eq_iff_iff];simp[aQ];omega
    have e4:pP c=decide (c.az.length=c.keys.length):=NO _ _
    have e5:((c.aP.length:Int)==0)=decide (c.aP.length=0):=W2 _
    have e6:decide (0<(c.aP.length:Int))=!decide (c.aP.length=0):=Nj _
    have e7:decide ((c.az.length:Int)<c.keys.length)=!decide (c.az.length=c.keys.length):=W3 hle
    have e8:decide ((c.keys.length:Int)<c.az.length)=false:=by simp;omega
    have e9:((c.az.length:Int)==c.keys.length)=decide (c.az.length=c.keys.length):=NO _ _
    have ZW:decide (0<(c.az.length:Int)+c.aP.length)=!(decide (c.az.length=0)&&decide (c.aP.length=0)):=Nk _ _
    rw[e4,e5,e6,e7,e8,e9,ZW]
    have ZX:kx c.aq=(dL c.aq||db c.aq):=rfl
    rw[ZX]
    cases hv:aQ c.val 0 9999
    ·simp
    ·rw[hv,Bool.and_true,Bool.and_true] at e3
     rw[e3]
     generalize decide (c.az.length=c.keys.length)=b9
     generalize decide (c.az.length=0)=lN
     generalize decide (c.aP.length=0)=ma
     generalize (c.val !=0)=tZ
     generalize c.over=sg
     by_cases hn:dL c.aq=true
     ·have U:db c.aq=false:=by
       cases U:db c.aq
       ·rfl
       ·have:=om U;simp[dL] at hn;omega
      rw[hn,U]
      rcases PJ with hh|hh<;>rw[hh]<;>by_cases he:c.end_=0<;>simp[he]<;>revert b1 b2 b4 b5 b6 b7 b9 lN ma tZ sg<;>decide
     ·simp only[Bool.not_eq_true] at hn
      rw[hn]
      generalize db c.aq=xf
      rcases PJ with hh|hh<;>rw[hh]<;>by_cases he:c.end_=0<;>simp[he]<;>revert b1 b2 b4 b5 b6 b7 b9 lN ma tZ xf sg<;>decide
def xg (l:List Call) (time:Int) (i:Nat):Bool:=eX (ab l i) time&&(decide (i=0)||decide ((ab l (i-1)).bD<(ab l i).bD))
def m9 (l:List Call) (time:Int) (i:Nat):Bool:=(xg l time i&&((ab l i).num==gn l (i+1) (ab l i).an))&&cF i λj=>!mD (ab l j) (ab l i)
def jq (l:List Call) (time:Int):Bool:=cF l.length (m9 l time)&&decide (l.length<=20)
theorem PK (l:List Call) (time:Int) (k:Nat):(!eX (ab l k) time||(decide (0<(k:Int))&&decide ((ab l k).bD<=(ab l ((k:Int)-1).toNat).bD)))=!xg l time k:=by
 have e:=uK (λd=>eX d time) (λa b=>decide (a.bD<b.bD)) l k
 have e2:decide ((ab l k).bD<=(ab l ((k:Int)-1).toNat).bD)=!decide ((ab l ((k:Int)-1).toNat).bD<(ab l k).bD):=by rw[Bool.eq_iff_iff];simp
 rw[e2,e];rfl
theorem PL (l:List Call) (time:Int) (k:Nat):((!eX (ab l k) time||(decide (0<(k:Int))&&decide ((ab l k).bD<=(ab l ((k:Int)-1).toNat).bD)))||((ab l k).num !=gn l (k+1) (ab l k).an))=!(xg l time k&&((ab l k).num==gn l (k+1) (ab l k).an)):=by
 rw[PK];simp[bne]
theorem yP {α:Type} [Inhabited α] (p:α->Bool) (l:List α):(!hasB p l)=cF l.length λi=>!p (ab l i):=by
 rw[Bool.eq_iff_iff,gx]
 constructor
 ·intro h i hi
  simp only[Bool.not_eq_true'] at h⊢
  cases hp:p (ab l i)
  ·rfl
  ·rw[Dr (aV hi) hp] at h;cases h
 ·intro h
  simp only[Bool.not_eq_true']
  cases hh:hasB p l
  ·rfl
  ·obtain⟨x,hx,hp⟩:=Gv hh
   obtain⟨k,hk,rfl⟩:=gq hx
   have:=h k hk
   rw[hp] at this;cases this
theorem HU (a b d:cw):du (du a b) d=du a (du b d):=GR λx=>by simp only[Al,Bool.or_assoc]
theorem ZY (a b:cw):du a b=du b a:=GR λx=>by simp only[Al];rw[Bool.or_comm]
theorem pf {s:cw} (h:s=eV\/db s=true):du eV s=s:=by
 unfold du
 rcases h with rfl|h
 ·simp
 ·rw[if_pos (GP (om h))]
theorem A0 {s:cw} (h:s=eV\/db s=true):du s eV=s:=by rw[ZY,pf h]
theorem sh:∀{l:List au} {last:Int},dI last l=true->∀key,bx l key=eV\/db (bx l key)=true
 |[],_,_,key=>Or.inl rfl
 |e::r,last,h,key=>by
  simp only[dI,Bool.and_eq_true] at h
  rw[lJ]
  split
  ·exact Or.inr h.1.2
  ·exact sh h.2 key
theorem yQ:∀{l:List au} {last:Int} {d:au} (key:Int),dI last l=true->db d.aq=true->bx (fN l d) key=if d.key=key then du (bx l key) d.aq else bx l key
 |[],last,d,key,_,U=>by
  unfold fN
  rw[lJ]
  split
  ·show d.aq=du eV d.aq
   rw[pf (Or.inr U)]
  ·rfl
 |e::r,last,d,key,h,U=>by
  have h':=h
  simp only[dI,Bool.and_eq_true] at h
  unfold fN
  split
  ·rename_i hk
   rw[lJ,lJ]
   have e1:(if bP e.aq d.aq=true then d else e).key=e.key:=by split<;>simp[hk]
   rw[e1,hk]
   split
   ·unfold du;split<;>rfl
   ·rfl
  ·rename_i hk
   split
   ·rename_i bw
    rw[lJ]
    split
    ·rename_i jh
     have:bx (e::r) key=eV:=by
      have hd:dI d.key (e::r)=true:=by
       simp only[dI,Bool.and_eq_true]
       refine⟨⟨?_,h.1.2⟩,h.2⟩
       have:=h.1.1
       simp[aQ] at this⊢;omega
      exact yf hd (by omega)
     rw[this,pf (Or.inr U)]
    ·rfl
   ·rename_i bw
    rw[lJ,lJ,yQ key h.2 U]
    by_cases lq:e.key=key
    ·rw[if_pos lq,if_pos lq,if_neg (by omega)]
    ·rw[if_neg lq,if_neg lq]
theorem A1 {a b:List au} (ha:bN a=true) (hb:bN b=true) (key:Int):bx (iK a b) key=du (bx a key) (bx b key):=by
 have vP:∀d∈b,lh d=true:=λd hd=>pe hb hd
 have ZZ:∀{b:List au} {last:Int} {a:List au},bN a=true->dI last b=true->(∀d∈b,lh d=true)->bx (iK a b) key=du (bx a key) (bx b key):=by
  intro b
  induction b with
  |nil=>
   intro last a ha _ _
   show bx a key=du (bx a key) eV
   rw[A0 (sh ha key)]
  |cons d r ih=>
   intro last a ha hb aN
   have hd:=aN d (by simp)
   have jH:=hd
   simp only[lh,Bool.and_eq_true] at jH
   simp only[dI,Bool.and_eq_true] at hb
   show bx (iK (fN a d) r) key=_
   rw[ih (wS ha hd) hb.2 λe he=>aN e (by simp[he]),yQ key ha jH.2,lJ]
   split
   ·rename_i hk
    have:bx r key=eV:=yf hb.2 (by omega)
    rw[this,A0]
    have h1:=sh ha key
    rcases h1 with h1|h1
    ·rw[h1,pf (Or.inr jH.2)];exact Or.inr jH.2
    ·right
     unfold du;split
     ·exact jH.2
     ·exact h1
   ·rfl
 exact ZZ ha hb vP
def kd:List Answer->Int->cw
 |[],_=>eV
 |a::r,key=>du (bx a.be.aO key) (kd r key)
theorem vr {c:Call} {time:Int} (h:eX c time=true):bN c.ctx=true/\(∀a∈c.az,dB a=true)/\iZ c=true/\ff c.an=true/\1<=c.bD/\c.bD<=time:=by
 simp only[eX,m8,pV,Bool.and_eq_true] at h
 have hg:oF c=true:=h.1.1.2.1.1
 have hb:=h.1.1.1.1.2
 simp[aQ] at hb
 refine⟨h.1.1.1.1.1.1.2,λa ha=>?_,h.1.1.1.1.1.1.1.1.2,h.1.1.1.1.1.1.1.1.1.1,hb.1,hb.2⟩
 obtain⟨k,hk,rfl⟩:=gq ha
 exact(HQ hg hk).1
theorem Z0 {c:Call} {t t':Int} (h:eX c t=true) (ht:t<=t'):eX c t'=true:=by
 simp only[eX,m8,Bool.and_eq_true] at h⊢
 have h1:aQ c.bD 1 t'=true:=by
  have:=h.1.1.1.1.2
  simp[aQ] at this⊢;omega
 have h2:ox c t'=true:=by
  have:=h.2
  unfold ox at this⊢
  split
  ·rename_i he;rwa[if_pos he] at this
  ·rename_i he
   rw[if_neg he] at this
   have e:aQ c.end_ (c.bD+1) t'=true:=by
    simp[aQ] at this⊢;omega
   have e':aQ c.end_ (c.bD+1) t=true:=by
    simp[aQ] at this⊢;omega
   rw[e];rwa[e'] at this
 exact⟨⟨⟨⟨⟨h.1.1.1.1.1,h1⟩,h.1.1.1.2⟩,h.1.1.2⟩,h.1.2⟩,h2⟩
theorem Dt {c:Call} {t:Int} (h:eX c t=true):eX c (c.bD+c.end_)=true:=by
 have hp:=vr h
 simp only[eX,m8,Bool.and_eq_true] at h⊢
 have he:c.end_=0\/c.bD+1<=c.end_:=by
  have:=h.2
  unfold ox at this
  by_cases h0:c.end_=0
  ·exact Or.inl h0
  ·rw[if_neg h0] at this
   right
   simp[aQ] at this;omega
 have h1:aQ c.bD 1 (c.bD+c.end_)=true:=by simp[aQ];omega
 have h2:ox c (c.bD+c.end_)=true:=by
  have:=h.2
  unfold ox at this⊢
  by_cases h0:c.end_=0
  ·rwa[if_pos h0] at this⊢
  ·rw[if_neg h0] at this⊢
   have e:aQ c.end_ (c.bD+1) (c.bD+c.end_)=true:=by simp[aQ];omega
   have e':aQ c.end_ (c.bD+1) t=true:=by
    simp[aQ] at this⊢;omega
   rw[e];rwa[e'] at this
 exact⟨⟨⟨⟨⟨h.1.1.1.1.1,h1⟩,h.1.1.1.2⟩,h.1.1.2⟩,h.1.2⟩,h2⟩
theorem PM (s:Server) (i:Nat) (hc:cn s.ao=true):((kz s.ao ⟨(ab s.waits i).key,(ab s.waits i).aq⟩).isSome||(bL (ab s.waits i).aq.site==bL s.site))=!wW s i:=by
 rw[yt hc]
 show _=!!(_||_)
 rw[Bool.not_not];rfl
def kO (q:Call):List au:=(q.az.map (oh (eW q))).flatten
def na (q:Call) (a:Answer) (time:Int):Call:=
 let x:={q with az:=cR q.az a}
 if x.az.length<x.keys.length then x else l7 {x with aP:=x.aP++kO x} time
def jW (q:Call) (m:aC) (time:Int):Call:=
 if m.kind=4/\(m.yes=true->m.ao.length=1/\(ab m.ao 0).key=m.key) then
  if cv q m.key<0 then(if dL m.aq then na q (dN m) time else q)
  else if m.yes then nH q (dN m) time else q
 else q
def dm (q:Call) (m:aC) (time:Int):Call:=
 if bO m&&(m.to==10+q.an)&&(m.call==q.num)&&gU q.keys m.key&&gQ q&&decide (q.bD<time) then
  if q.kind=1 then(if m.kind=2/\db m.aq=true then{q with aq:=m.aq,end_:=time} else q)
  else jW q m time
 else q
def kQ (w:aE) (e:Ev):aE×Bool:=
 if ff e.an&&decide (cq w.calls e.an<0) then({w with calls:=w.calls++[jx w e]},jq (w.calls++[jx w e]) w.time) else(w,false)
def mb (w:aE) (m:aC):aE:=
 let i:=cq w.calls (m.to-10)
 if i<0 then w else
  let q:=dm (ab w.calls i.toNat) m w.time
  let w1:={w with calls:=w.calls.set i.toNat q}
  if 0<q.end_ then{w1 with seen:=w.seen.set (m.to-10).toNat (dP q)} else w1
theorem HV (l:List au) (key:Int):
 Fn Tryz.prog 49 [bm l,AV.int key] ((bx l key).av):=by
 refine Fn.go 21 Tryz.func49 Tryz.ntmps49 (λW I a U=>?_)
 have hle:=U.cW (t:=0) rfl
 refine sr<|U.alloc rfl l5 jU λb4 I a w U=>?_
 refine aI λI a w U=>?_
 refine St.lo (σ:=Nat) (6::(run 11 9 [])) ⟨λk=>[(9,AV.int k)],λk=>[Own.box b4 36 [AV.val (.int .i64 0),AV.val (.int .i64 0)]],λk=>k<=l.length/\∀i,i<k->pF key (ab l i)=false⟩ (λk=>l.length-k) 0 U ?aJ ?aK
 case aJ=>exact⟨Nat.zero_le _,λi hi=>by omega⟩
 case aK=>
  rintro k I a w aj U
  obtain⟨hk,aN⟩:=aj
  refine ai λI a w U=>?_
  refine cz (λae=>?_) λae=>?_
  ·refine aF λI a w U=>?_
   refine U.alloc rfl cH fL λb6 I a w U=>?_
   refine ai λI a w U=>?_
   obtain⟨I,U⟩:=U.fb 1 6
   refine aU λI a w U=>?_
   refine U.cd (λah=>?_) λah=>?_
   ·refine aI λI a w U=>?_
    refine U.ret rfl (.cons (.sx 0) aX.nil) ?_
    exact(by rw[MB ae aN ah];rfl)
   ·refine aA λI a w U=>?_
    have U:=U.drop 1
    exact U.ag (k+1) (⟨ae,λi h1=>by rcases Nat.lt_succ_iff_lt_or_eq.1 h1 with h|h;exact aN i h;rw[h];exact ah⟩)
  ·refine zt ?_
   refine U.o (.bd jU bf.nil) λU=>?_
   refine ai λI a w U=>?_
   refine U.ret rfl (.cons (.sx 0) aX.nil) ?_
   exact(by rw[PH (by omega) aN];rfl)
theorem Z1 (l:List au) (key:Int) (hl:bN l=true):
 Fn Tryz.prog 273 [bm l,AV.int key] ((bx l key).av):=by
 refine Fn.go 29 Tryz.func273 Tryz.ntmps273 (λW I a U=>?_)
 have hle:=U.cW (t:=0) rfl
 refine sr<|U.alloc rfl l5 jU λb4 I a w U=>?_
 refine bH λI a w U=>?_
 refine U.o (.cl (rQ ..)) λU=>?_
 refine ai λI a w U=>?_
 refine U.cd (λae=>?_) λae=>?_
 ·exfalso;rw[hl] at ae;cases ae
  skip
 ·refine ai λI a w U=>?_
  refine St.lo (σ:=Nat) (5::(run 18 10 [])) ⟨λk=>[(5,AV.int k)],λk=>[Own.box b4 36 [AV.val (.int .i64 0),AV.val (.int .i64 0)]],λk=>k<=l.length/\∀i,i<k->pF key (ab l i)=false⟩ (λk=>l.length-k) 0 U ?aJ ?aK
  case aJ=>exact⟨Nat.zero_le _,λi hi=>by omega⟩
  case aK=>
   rintro k I a w aj U
   obtain⟨hk,aN⟩:=aj
   refine aU λI a w U=>?_
   refine cz (λah=>?_) λah=>?_
   ·refine jT λI a w U=>?_
    refine U.cd (λal=>?_) λal=>?_
    ·refine jj λI a w U=>?_
     refine U.ret rfl (.cons (.sx 0) aX.nil) ?_
     exact(by rw[MB ah aN al];rfl)
    ·refine aI λI a w U=>?_
     exact U.ag (k+1) (⟨ah,λi h1=>by rcases Nat.lt_succ_iff_lt_or_eq.1 h1 with h|h;exact aN i h;rw[h];exact al⟩)
   ·refine zt ?_
    refine U.o (.bd jU bf.nil) λU=>?_
    refine ai λI a w U=>?_
    refine U.ret rfl (.cons (.sx 0) aX.nil) ?_
    exact(by rw[PH (by omega) aN];rfl)
theorem PN (l:List Int) (key:Int):
 Fn Tryz.prog 136 [jg l,AV.int key] (AV.bool (gU l key)):=by
 refine Fn.go 9 Tryz.func136 Tryz.ntmps136 (λW I a U=>?_)
 refine bk λI a w U=>?_
 refine U.o (.cl (XS l key)) λU=>?_
 refine aA λI a w U=>?_
 refine U.rt ?_
 rfl
theorem PO (l:List Int) (key:Int):
 Fn Tryz.prog 200 [jg l,AV.int key] (AV.bool (gU l key)):=by
 refine Fn.go 18 Tryz.func200 Tryz.ntmps200 (λW I a U=>?_)
 have hle:=U.cW (t:=0) rfl
 refine aA λI a w U=>?_
 refine St.lo (σ:=Nat) (run 14 4 []) ⟨λk=>[(5,AV.int k)],λk=>[],λk=>k<=l.length/\∀i,i<k->vg key (ab l i)=false⟩ (λk=>l.length-k) 0 U ?aJ ?aK
 case aJ=>exact⟨Nat.zero_le _,λi hi=>by omega⟩
 case aK=>
  rintro k I a w aj U
  obtain⟨hk,aN⟩:=aj
  refine aU λI a w U=>?_
  refine cz (λae=>?_) λae=>?_
  ·refine jj λI a w U=>?_
   refine U.cd (λah=>?_) λah=>?_
   ·refine ai λI a w U=>?_
    refine U.rt ?_
    exact bG (Dr (aV ae) ah).symm
   ·refine aI λI a w U=>?_
    exact U.ag (k+1) (⟨by omega,λi h1=>by rcases Nat.lt_succ_iff_lt_or_eq.1 h1 with h|h;exact aN i h;rw[h];exact ah⟩)
  ·refine zt ?_
   refine ai λI a w U=>?_
   refine U.rt ?_
   exact bG (by unfold gU hasB;rw[mR (by omega) aN];rfl)
theorem Z2 {q:Call} {time:Int} (h:m8 q time=true):1<=q.bD/\q.bD<=time:=by
 simp only[m8,Bool.and_eq_true] at h
 have:=h.1.1.2
 simp[aQ] at this;exact this
theorem Z3 {q:Call} {time:Int} (h:m8 q time=true):q.az.length<=3/\q.aP.length<=6:=by
 simp only[m8,pV,Bool.and_eq_true] at h
 have hk:iZ q=true:=h.1.1.1.1.1.1.2
 have hd:bN q.aP=true:=h.1.1.1.2
 have hg:oF q=true:=h.2.1.1
 have h3:q.keys.length<=3:=by
  unfold iZ at hk
  rw[Bool.and_eq_true] at hk
  have:=hk.2
  simp[aQ] at this;omega
 have Ds:lI q.keys=true:=by unfold iZ at hk;rw[Bool.and_eq_true] at hk;exact hk.1
 have:=HT Ds hg
 exact⟨by omega,gR hd⟩
theorem PQ (q:Call) (k:Nat):(!wB (ab q.az k)||!gU q.keys (ab q.az k).key||(decide (0<(k:Int))&&decide ((ab q.az k).key<=(ab q.az ((k:Int)-1).toNat).key)))=!vp q k:=by
 unfold vp
 rw[Bool.or_assoc,HP];simp
theorem Z4 (q:Call):
 Fn Tryz.prog 79 [q.av] (AV.bool (iZ q)):=by
 refine Fn.go 40 Tryz.func79 Tryz.ntmps79 (λW I a U=>?_)
 have lens:q.keys.length<=9223372036854775807/\q.az.length<=9223372036854775807/\q.aP.length<=9223372036854775807:=⟨U.ln 0 3,U.ln 0 11,U.ln 0 12⟩
 refine jT λI a w U=>?_
 refine St.lo (σ:=Nat) (run 2 2 (5::(run 11 9 []))) ⟨λk=>[(9,AV.int k),(3,AV.int (vh q.keys k))],λk=>[],λk=>k<=q.keys.length/\∀i,i<k->eQ dp oZ q.keys i=true⟩ (λk=>q.keys.length-k) 0 U ?aJ ?aK
 case aJ=>exact⟨Nat.zero_le _,λi hi=>by omega⟩
 case aK=>
  rintro k I a w aj U
  obtain⟨hk,aN⟩:=aj
  refine ai λI a w U=>?_
  refine cz (λae=>?_) λae=>?_
  ·refine bM λI a w U=>?_
   refine U.o (kS .tt .c (λ_=>by have:=NJ aN;omega)) λU=>?_
   refine U.o (.cl (jv ..)) λU=>?_
   refine ai λI a w U=>?_
   refine U.cd (λah=>?_) λah=>?_
   ·rw[NK aN] at ah;replace ah:=nt ah
    refine ai λI a w U=>?_
    refine U.rt ?_
    exact bG (by unfold iZ lI;rw[eB (f:=eQ dp oZ q.keys) ae ah];rfl)
   ·rw[NK aN] at ah;replace ah:=nf ah
    refine aU λI a w U=>?_
    refine U.again (k+1) ?iM ?iN (by rfl) ?iO (by repeat(first|exact Env.le_rfl|refine Env.jf rfl ?_))
    case iM=>omega
    case iN=>exact⟨by omega,fg aN ah⟩
    case iO=>exact(Env.dK rfl (by rfl) (Env.dK rfl (by exact congrArg AV.int (XM _ _).symm) Env.le_nil))
  ·refine zt ?_
   refine LU λI a w U=>?_
   refine U.q .T2 (.cl (jv ..)) λU=>?_
   refine aI λI a w U=>?_
   refine U.rt ?_
   exact bG (by unfold iZ lI;rw[eP aN (by omega)];rfl)
theorem Z5 (q:Call):
 Fn Tryz.prog 81 [q.av] (AV.bool (pV q)):=by
 refine Fn.go 100 Tryz.func81 Tryz.ntmps81 (λW I a U=>?_)
 have lens:q.keys.length<=9223372036854775807/\q.az.length<=9223372036854775807/\q.aP.length<=9223372036854775807:=⟨U.ln 0 3,U.ln 0 11,U.ln 0 12⟩
 refine jj λI a w U=>?_
 refine St.lo (σ:=Nat) (run 3 2 (run 56 11 [])) ⟨λk=>[(11,AV.int k)],λk=>[],λk=>k<=q.az.length/\∀i,i<k->(pU q) i=true⟩ (λk=>q.az.length-k) 0 U ?aJ ?aK
 case aJ=>exact⟨Nat.zero_le _,λi hi=>by omega⟩
 case aK=>
  rintro k I a w aj U
  obtain⟨o1,aN⟩:=aj
  refine ai λI a w U=>?_
  refine cz (λae=>?_) λae=>?_
  ·refine bk λI a w U=>?_
   refine U.alloc rfl fj od λb4 I a w U=>?_
   refine aA λI a w U=>?_
   obtain⟨I,U⟩:=U.fb 0 4
   refine U.dk ?_
   refine dq ?_
   refine .o (.cl (PN ..)) ?_
   refine lG ?_
   refine bn ?_
   refine .nil ?_
   intro I a w U
   refine aY ?_
   refine U.cd (λah=>?_) λah=>?_
   ·rw[HP] at ah;replace ah:=nt ah
    refine ai λI a w U=>?_
    refine U.rt ?_
    exact bG (by unfold pV oF;rw[eB (f:=pU q) ae (by unfold pU;rw[ah];rfl)];rfl)
   ·rw[HP] at ah;replace ah:=nf ah
    refine bM λI a w U=>?_
    refine U.q .T (.cl (GG ..)) λU=>?_
    refine LU λI a w U=>?_
    refine U.q .T2 (.bd dE bf.nil) λU=>?_
    refine U.q .T2 (.cl (MD _ rR)) λU=>?_
    refine aI λI a w U=>?_
    refine U.cd (λal=>?_) λal=>?_
    ·rw[MU] at al;replace al:=nt al
     refine ai λI a w U=>?_
     refine U.rt ?_
     exact bG (by unfold pV oF;rw[eB (f:=pU q) ae (by unfold pU;rw[ah,al];rfl)];rfl)
    ·rw[MU] at al;replace al:=nf al
     refine aA λI a w U=>?_
     have U:=U.drop 0
     exact U.ag (k+1) (⟨by omega,fg aN (by unfold pU;rw[ah,al];rfl)⟩)
  ·refine zt ?_
   refine aU λI a w U=>?_
   refine St.lo (σ:=Nat) (2::(run 2 6 (run 22 70 []))) ⟨λk2=>[(70,AV.int k2)],λk2=>[],λk2=>k2<=q.aP.length/\∀i,i<k2->(qx q) i=true⟩ (λk2=>q.aP.length-k2) 0 U ?cU ?cV
   case cU=>exact⟨Nat.zero_le _,λi hi=>by omega⟩
   case cV=>
    rintro k2 I a w aj U
    obtain⟨xh,jC⟩:=aj
    refine ai λI a w U=>?_
    refine cz (λaH=>?_) λaH=>?_
    ·refine aF λI a w U=>?_
     refine U.alloc rfl cH fL λb6 I a w U=>?_
     refine ai λI a w U=>?_
     obtain⟨I,U⟩:=U.fb 0 6
     refine bk λI a w U=>?_
     refine U.o (.c2 (M1 ..)) λU=>?_
     refine ai λI a w U=>?_
     refine U.dk ?_
     refine fK ?_
     refine .q .F ((by first|exact dS iI fj .ag .ag (λhg=>by have h0:0<=cv q (ab q.aP k2).key:=(by simpa using hg);have:=vq h0;omega)|exact fS iI fj .ag .ag (λhg=>by have h0:0<=cv q (ab q.aP k2).key:=(by simpa using hg);have:=vq h0;omega)|exact fZ iI fj .ag .ag (λhg=>by have h0:0<=cv q (ab q.aP k2).key:=(by simpa using hg);have:=vq h0;omega))) ?_
     refine cD ?_
     refine .q .F (.cl (Gy ..)) ?_
     refine bT ?_
     refine .nil ?_
     intro I a w U
     refine aY ?_
     refine U.cd (λaM=>?_) λaM=>?_
     ·rw[MV] at aM;replace aM:=nt aM
      refine ai λI a w U=>?_
      refine U.rt ?_
      exact bG (by unfold pV oF;rw[eP aN (by omega),eB (f:=qx q) aH aM];rfl)
     ·rw[MV] at aM;replace aM:=nf aM
      refine aA λI a w U=>?_
      have U:=U.drop 0
      exact U.ag (k2+1) (⟨by omega,fg jC aM⟩)
    ·refine zt ?_
     refine dD λI a w U=>?_
     refine U.q .F (.cl (NS ..)) λU=>?_
     refine aA λI a w U=>?_
     refine U.rt ?_
     exact bG (by unfold pV oF;rw[eP aN (by omega),eP jC (by omega)];rfl)
theorem Du (q:Call) (time:Int) (ht:time<=4611686018427387904):
 Fn Tryz.prog 50 [q.av,AV.int time] (AV.bool (eX q time)):=by
 refine Fn.go 125 Tryz.func50 Tryz.ntmps50 (λW I a U=>?_)
 have lens:q.keys.length<=9223372036854775807/\q.az.length<=9223372036854775807/\q.aP.length<=9223372036854775807:=⟨U.ln 0 3,U.ln 0 11,U.ln 0 12⟩
 refine bt λI a w U=>?_
 refine U.o (.c1 (Av ..)) λU=>?_
 refine bt λI a w U=>?_
 refine U.q .F (.cl (jv ..)) λU=>?_
 refine bt λI a w U=>?_
 refine U.q .F (.cl (Z4 ..)) λU=>?_
 refine bM λI a w U=>?_
 refine U.q .F (.cl (jv ..)) λU=>?_
 refine bM λI a w U=>?_
 refine U.q .F (.cl (yr ..)) λU=>?_
 refine bM λI a w U=>?_
 refine U.q .F (.cl (yr ..)) λU=>?_
 refine dD λI a w U=>?_
 refine U.q .F (.cl (jv ..)) λU=>?_
 refine bM λI a w U=>?_
 refine U.q .F (.cl (PF ..)) λU=>?_
 refine bt λI a w U=>?_
 refine U.q .F (.cl (Z5 ..)) λU=>?_
 refine aA λI a w U=>?_
 refine U.cd (λae=>?_) λae=>?_
 ·rw[PI] at ae;replace ae:=nt ae
  refine ai λI a w U=>?_
  refine U.rt ?_
  exact bG (by unfold eX;rw[ae];rfl)
 ·rw[PI] at ae;replace ae:=nf ae
  refine Cj λI a w U=>?_
  refine U.q .T (kS .ag .ag (λhg=>by have:=Z3 ae;omega)) λU=>?_
  refine Cj λI a w U=>?_
  refine U.q .F2 (.cl (vf ..)) λU=>?_
  refine aU λI a w U=>?_
  refine U.cd (λah=>?_) λah=>?_
  ·rw[M2] at ah;replace ah:=nt ah
   refine ai λI a w U=>?_
   refine U.rt ?_
   exact bG (by unfold eX;rw[ae,ah];rfl)
  ·rw[M2] at ah;replace ah:=nf ah
   refine aI λI a w U=>?_
   refine cz (λal=>?_) λal=>?_
   ·refine aF λI a w U=>?_
    refine U.o (.c1 (vf ..)) λU=>?_
    refine ai λI a w U=>?_
    refine U.rt ?_
    exact bG (by unfold eX ox;rw[ae,ah,if_pos al];rfl)
   ·refine gz λI a w U=>?_
    refine U.q .F (kS .ag .c (λhg=>by have:=Z2 ae;omega)) λU=>?_
    refine U.q .F .mv λU=>?_
    refine U.q .F (.cl (jv ..)) λU=>?_
    refine ob λI a w U=>?_
    refine U.cd (λaH=>?_) λaH=>?_
    ·refine ai λI a w U=>?_
     refine U.rt ?_
     exact bG (by unfold eX ox;rw[ae,ah,if_neg al,aH];rfl)
    ·refine bt λI a w U=>?_
     refine U.q .T (.cl (vf ..)) λU=>?_
     refine gz λI a w U=>?_
     refine U.q .T2 (.cl (NS ..)) λU=>?_
     refine aI λI a w U=>?_
     refine U.rt ?_
     exact bG (by unfold eX ox;rw[ae,ah,if_neg al,aH];rfl)
theorem PR {l:List Call} {time:Int} {j:Nat} (h:m9 l time j=true):(ab l j).num=gn l (j+1) (ab l j).an:=by
 simp only[m9,Bool.and_eq_true,beq_iff_eq] at h;exact h.1.2
theorem PS (l:List Call) (time:Int) (k:Nat):(!eX (ab l k) time||(decide (0<(k:Int))&&decide ((ab l k).bD<=(ab l ((k:Int)-1).toNat).bD)))=!xg l time k:=PK l time k
theorem Dv (l:List Call) (time:Int) (k:Nat):m9 l time k=((xg l time k&&((ab l k).num==gn l (k+1) (ab l k).an))&&cF k λj=>!mD (ab l j) (ab l k)):=rfl
theorem PT (x:aE):(!aQ x.time 0 99999||((x.ax.length:Int) !=4)||decide (60<(x.ar.length:Int))||((x.seen.length:Int) !=2)||!jq x.calls x.time)=!(oz x&&jq x.calls x.time):=by
 unfold oz;simp
theorem yR (l:List (List au)):(!hasB wV l)=cF l.length λi=>bN (ab l i):=by
 rw[yP];exact xS rfl λi _=>by simp[wV]
theorem A2 (l:List aC):(!hasB wU l)=cF l.length λi=>bO (ab l i):=by
 rw[yP];exact xS rfl λi _=>by simp[wU]
theorem Z6 (l:List au):
 Fn Tryz.prog 92 [bm l] (AV.bool (wV l)):=by
 refine Fn.go 6 Tryz.func92 Tryz.ntmps92 (λW I a U=>?_)
 refine aF λI a w U=>?_
 refine U.o (.cl (yr ..)) λU=>?_
 refine aA λI a w U=>?_
 refine U.rt ?_
 rfl
theorem PU {q:Call} {t:Int} (h:eX q t=true) (hk:q.kind=1) (he:¬q.end_=0):lh ⟨ab q.keys 0,q.aq⟩=true:=by
 have hp:=vr h
 have eS:lI q.keys=true:=by have:=hp.2.2.1;unfold iZ at this;rw[Bool.and_eq_true] at this;exact this.1
 have h1:=yv eS (aV (w4 hp.2.2.1 hk))
 simp only[eX,m8,Bool.and_eq_true] at h
 have bc:kx q.aq=true:=h.1.1.1.2
 have xi:=h.2
 unfold ox at xi
 rw[if_neg he] at xi
 simp[hk] at xi
 simp only[kx,xi.2,Bool.false_or] at bc
 simp[lh,h1,bc]
theorem vu (l:List aB) (h:l.length<=1048576) (hd:∀v∈l,v.aO.length<=1048576):
 kh Tryz.prog 94 [bX l] 43 7 (l.map aB.cells):=by
 refine kh.intro 19 Tryz.func94 rfl Tryz.ntmps94 rfl (by kernel_rfl) (λW I a U=>?_)
 have U:=U.gC (sz:=7) 43
 refine ck λI a w U=>?_
 refine St.lo (σ:=Nat×Value) (3::(5::(run 10 8 []))) ⟨λ⟨k,v⟩=>[(8,AV.int k),(3,AV.val v)],λ⟨k,v⟩=>[Own.row v 43 7 ((l.take k).map aB.cells)],λ⟨k,v⟩=>k<=l.length⟩ (λ⟨k,v⟩=>l.length-k) (0,.slice none 0 0) U ?aJ ?aK
 case aJ=>exact Nat.zero_le _
 case aK=>
  rintro⟨k,v⟩ I a w aj U
  have hk:k<=l.length:=aj
  dsimp only at U
  refine ai λI a w U=>?_
  refine cz (λae=>?_) λae=>?_
  ·refine aF λI a w U=>?_
   refine U.alloc rfl bA dE λb5 I a w U=>?_
   refine ai λI a w U=>?_
   obtain⟨I,U⟩:=U.fb 1 5
   refine aF λI a w U=>?_
   refine U.o (.c1 (w5 (ab l k) (hd _ (aV ae)))) λU=>?_
   refine U.o (.li [(ab l k).cells] lH (.u .nil)) λU=>?_
   refine U.ap 0 λHW a w U=>?_
   rw[cA,<-dW ae] at U
   refine aI λI a w U=>?_
   have U:=U.drop 1
   exact U.ag (k+1,HW) (ae)
  ·refine zt ?_
   refine aA λI a w U=>?_
   exact U.wj (r:=2) 0 rfl rfl rfl (by rw[List.take_of_length_le (by omega)])
theorem Dw (l:List aB) (v:aB) (h:l.length<=1048575) (hd:∀u∈l,u.aO.length<=1048576) (hv:v.aO.length<=1048576):
 Fn Tryz.prog 96 [bX l,v.av] (bX (fk l v)):=by
 refine Fn.go 29 Tryz.func96 Tryz.ntmps96 (λW I a U=>?_)
 refine aI λI a w U=>?_
 refine St.lo (σ:=Nat) (run 17 5 []) ⟨λk=>[(5,AV.int k)],λk=>[],λk=>k<=l.length/\∀i,i<k->gy (ab l i) v=true⟩ (λk=>l.length-k) 0 U ?aJ ?aK
 case aJ=>exact⟨Nat.zero_le _,λi hi=>by omega⟩
 case aK=>
  rintro k I a w aj U
  obtain⟨hk,aN⟩:=aj
  refine wp_seq<|wp_seq<|U.dk ?_
  refine tv ?_
  refine .q .T (.cl (mS ..)) ?_
  refine bn ?_
  refine .q .T (.cl (mS ..)) ?_
  refine .q .T (.cl (CK ..)) ?_
  refine bn ?_
  refine .nil ?_
  intro I a w U
  refine aY ?_
  refine cz (λae=>?_) λae=>?_
  ·refine aI λI a w U=>?_
   exact U.ag (k+1) (⟨by omega,λi h1=>by rcases Nat.lt_succ_iff_lt_or_eq.1 h1 with h|h;exact aN i h;rw[h];exact ae.2⟩)
  ·refine zt ?_
   refine U.da 6 ?_
   simp only[TD]
   refine bn ?_
   refine gj.oW (vu l (by omega) hd) (aw .r aL) ?_
   refine bT ?_
   refine .o (.c1 (w5 v hv)) ?_
   refine .o (.li [v.cells] lH (.u .nil)) ?_
   refine .nil ?_
   intro I a w U
   obtain⟨Dd,U⟩:=U.Ce (d:=23)
   refine U.eT [0] (XR _ (l.map aB.cells) v.cells k (by rw[List.length_map];exact hk) (by rw[List.length_map];omega) (λr hr=>by obtain⟨u,_,rfl⟩:=List.mem_map.1 hr;rfl) rfl) (aw .tt (aw .tt (aw .tt aL))) rfl (by decide) rfl λI a w U=>?_
   refine ai λI a w U=>?_
   refine U.rt ?_
   exact congrArg (AV.rows 7) (by rw[<-MX hk aN (λhl=>by rcases ae with h|h;omega;exact h),List.map_append,List.map_cons,List.map_take,List.map_drop])
theorem pW {l:List aB} (h:cn l=true):∀v∈l,v.aO.length<=6:=λv hv=>gR (jk (gu h v hv)).2.2
theorem A3 (s:Server) (h:rW s):
 c7 Tryz.prog 71 [s.av] [] (λ_=>True) s.NU s.Xq:=by
 refine c7.intro 23 Tryz.func71 rfl Tryz.ntmps71 rfl (by kernel_rfl) (λW I a U=>?_)
 obtain⟨h1,⟨h2,h3⟩,⟨h4,h5⟩,h6,h7⟩:=h
 refine bH λI a w U=>?_
 refine U.alloc rfl cm dF λb2 I a w U=>?_
 refine zt ?_
 have U:=U.fT
 have U:=U.fT
 have U:=U.fT
 have U:=U.fT
 have U:=U.fT
 have U:=U.gC (sz:=2) 104
 refine U.z9 20 _ [([],none),([],none),([],none),([],none),([],none),([],none),([6],some (6,[9])),([],none),([],none),([1],some (1,[12])),([],none),([],none),([2],some (2,[15])),([],none),([],none),([3],some (3,[18])),([],none),([],none),([4],some (4,[21])),([5],some (5,[22,9,12,15,18,21]))] rfl (by kernel_rfl) (by kernel_rfl) rfl ?_
 simp only[TD]
 refine fK ?_
 refine aS.Fw 6 rfl rfl fU er rfl .c .r (by simp;omega) ?_
 refine bT ?_
 refine aS.oW 1 rfl rfl (vu s.ao h2 h3) (aw .r aL) ?_
 refine bT ?_
 refine aS.oW 2 rfl rfl (vu s.waits h4 h5) (aw .r aL) ?_
 refine bT ?_
 refine aS.oW 3 rfl rfl (CW s.aD h6) (aw .r aL) ?_
 refine bT ?_
 refine aS.oW 4 rfl rfl (CW s.bl h7) (aw .r aL) ?_
 refine aS.F1 5 [9,12,15,18,21] (λa=>AV.agg [AV.int s.site,AV.bool s.up,AV.val (a.tmps.getD 9 undef),AV.val (a.tmps.getD 12 undef),AV.val (a.tmps.getD 15 undef),AV.val (a.tmps.getD 18 undef),AV.val (a.tmps.getD 21 undef)]) rfl rfl rfl rfl (λa b h=>by simp only[List.forall_mem_cons] at h;simp only[h]) rfl (λF a I he=>Ok.to (.bd dF (.k (.k (bf.c VE rfl .tt (wy (t:=9) he) (bf.c VG rfl .tt (wy (t:=12) he) (bf.c VI rfl .tt (wy (t:=15) he) (bf.c VK rfl .tt (wy (t:=18) he) (bf.c VM rfl .tt (wy (t:=21) he) bf.nil))))))))) ?_
 refine .nil ?_
 intro I a w U
 change St _ _ [Own.box b2 61 [AV.val (.int .i64 0),AV.val (.bool false),AV.rows 2 [],AV.rows 7 [],AV.rows 7 [],AV.rows 3 [],AV.rows 3 []],Own.row (a.tmps.getD 12 undef) 43 7 (s.ao.map aB.cells),Own.row (a.tmps.getD 15 undef) 43 7 (s.waits.map aB.cells),Own.row (a.tmps.getD 18 undef) 63 3 (s.aD.map au.cells),Own.row (a.tmps.getD 21 undef) 63 3 (s.bl.map au.cells),Own.is (AV.agg [AV.int s.site,AV.bool s.up,AV.val (a.tmps.getD 9 undef),AV.val (a.tmps.getD 12 undef),AV.val (a.tmps.getD 15 undef),AV.val (a.tmps.getD 18 undef),AV.val (a.tmps.getD 21 undef)]) (a.tmps.getD 22 undef),Own.row (a.tmps.getD 9 undef) 104 2 (s.aG.map dG.cells)] _ _ _ at U
 have U:=U.F3 (d:=22) 5 rfl
 generalize a.tmps.getD 9 undef=v9 at U
 generalize a.tmps.getD 12 undef=Z7 at U
 generalize a.tmps.getD 15 undef=Z8 at U
 generalize a.tmps.getD 18 undef=PV at U
 generalize a.tmps.getD 21 undef=PW at U
 show wpList _ _ _ _ _ _
 refine ai λI a w U=>?_
 exact U.de (v9,Z7,Z8,PV,PW) [6,1,2,3,4] rfl (.cons (.s 0 cm rfl rfl (by first|rfl|assumption)) .nil) trivial rfl rfl
theorem ua (s:Server) (h:rW s):Fn Tryz.prog 71 [s.av] s.av:=(A3 s h).frozen λr c I a w _ U=>by
 obtain⟨I,U⟩:=U.fa 0 0 2
 obtain⟨I,U⟩:=U.fa 1 0 3
 obtain⟨I,U⟩:=U.fa 2 0 4
 obtain⟨I,U⟩:=U.fa 3 0 5
 obtain⟨I,U⟩:=U.fa 4 0 6
 exact⟨_,_,_,U⟩
theorem A4 (m:aC) (h:kD m):
 Fn Tryz.prog 134 [m.av] (m.av):=by
 refine Fn.go 20 Tryz.func134 Tryz.ntmps134 (λW I a U=>?_)
 obtain⟨h1,⟨h2,h3⟩,⟨h4,h5⟩,h6⟩:=h
 refine sr<|U.box rfl .tt λb1 I a w U=>U.alloc rfl dr eb λb2 I a w U=>?_
 refine zt ?_
 refine U.dt 13 ?_
 simp only[TD]
 refine bT ?_
 refine .o (.cl (tN m.aO h1)) ?_
 refine bT ?_
 refine .o (bY (kh.fn (vu m.ao h2 h3)) (aw .r aL)) ?_
 refine bT ?_
 refine .o (bY (kh.fn (vu m.waits h4 h5)) (aw .r aL)) ?_
 refine bT ?_
 refine .o (.cl (tN m.aD h6)) ?_
 refine bn ?_
 refine .nil ?_
 intro I a w U
 refine mA λI a w U=>?_
 refine U.ret rfl (.cons (.sx 1) aX.nil) ?_
 rfl
theorem Z9 (l:List aC) (h:l.length<=1048576) (hd:∀m∈l,kD m):
 kh Tryz.prog 70 [bq l] 70 15 (l.map aC.cells):=by
 refine kh.intro 19 Tryz.func70 rfl Tryz.ntmps70 rfl (by kernel_rfl) (λW I a U=>?_)
 have U:=U.gC (sz:=15) 70
 refine ck λI a w U=>?_
 refine St.lo (σ:=Nat×Value) (3::(5::(run 10 8 []))) ⟨λ⟨k,v⟩=>[(8,AV.int k),(3,AV.val v)],λ⟨k,v⟩=>[Own.row v 70 15 ((l.take k).map aC.cells)],λ⟨k,v⟩=>k<=l.length⟩ (λ⟨k,v⟩=>l.length-k) (0,.slice none 0 0) U ?aJ ?aK
 case aJ=>exact Nat.zero_le _
 case aK=>
  rintro⟨k,v⟩ I a w aj U
  have hk:k<=l.length:=aj
  dsimp only at U
  refine ai λI a w U=>?_
  refine cz (λae=>?_) λae=>?_
  ·refine aF λI a w U=>?_
   refine U.alloc rfl dr eb λb5 I a w U=>?_
   refine ai λI a w U=>?_
   obtain⟨I,U⟩:=U.fb 1 5
   refine aF λI a w U=>?_
   refine U.o (.c1 (A4 (ab l k) (hd _ (aV ae)))) λU=>?_
   refine U.o (.li [(ab l k).cells] gP (.u .nil)) λU=>?_
   refine U.ap 0 λHW a w U=>?_
   rw[cA,<-dW ae] at U
   refine aI λI a w U=>?_
   have U:=U.drop 1
   exact U.ag (k+1,HW) (ae)
  ·refine zt ?_
   refine aA λI a w U=>?_
   exact U.wj (r:=2) 0 rfl rfl rfl (by rw[List.take_of_length_le (by omega)])
theorem Dx (l:List aB) (slot:Int) (hc:cn l=true):
 Fn Tryz.prog 242 [bX l,AV.int slot] (AV.dx [bX (l.filter (ew slot)),bX (l.filter (λv=>!ew slot v))]):=by
 refine Fn.go 48 Tryz.func242 Tryz.ntmps242 (λW I a U=>?_)
 have hle:=U.cW (t:=0) rfl
 have A5:=fV hc
 have jO:=pW hc
 refine aA λI a w U=>?_
 refine U.l0 λb9 I a w U=>?_
 refine ai λI a w U=>?_
 refine U.l0 λlN I a w U=>?_
 refine aF λI a w U=>?_
 refine U.o (.cl (u9 ..)) λU=>?_
 refine ai λI a w U=>?_
 refine U.cd (λae=>?_) λae=>?_
 ·exfalso;rw[hc] at ae;cases ae
  skip
 ·refine ai λI a w U=>?_
  refine St.lo (σ:=Nat×Value×Value) (run 3 6 (run 30 16 [])) ⟨λ⟨k,u,v⟩=>[(8,AV.int k),(6,AV.val u),(7,AV.val v)],λ⟨k,u,v⟩=>[Own.row u 43 7 (((l.take k).filter (ew slot)).map aB.cells),Own.row v 43 7 (((l.take k).filter (λv=>!ew slot v)).map aB.cells)],λ⟨k,u,v⟩=>k<=l.length⟩ (λ⟨k,u,v⟩=>l.length-k) (0,.slice (some ⟨b9,0,none⟩) 0 0,.slice (some ⟨lN,0,none⟩) 0 0) U ?aJ ?aK
  case aJ=>exact Nat.zero_le _
  case aK=>
   rintro⟨k,u,v⟩ I a w aj U
   have hk:k<=l.length:=aj
   have Pq:=rX (ew slot) l k
   have Pr:=rX (λv=>!ew slot v) l k
   dsimp only at U
   refine aU λI a w U=>?_
   refine cz (λah=>?_) λah=>?_
   ·refine bM λI a w U=>?_
    refine U.o (.c1 (uV ..)) λU=>?_
    refine aA λI a w U=>?_
    refine U.cd (λal=>?_) λal=>?_
    ·change ew slot (ab l k)=true at al
     refine bM λI a w U=>?_
     refine U.o (bY (pE _ (by have:=jO _ (aV ah);omega)) (aw (.t rfl) aL)) λU=>?_
     refine U.o (.li [(ab l k).cells] lH (.u .nil)) λU=>?_
     refine U.ap 0 λAQ a w U=>?_
     rw[cA,<-oA ah al,show(l.take k).filter (λv=>!ew slot v)=(l.take (k+1)).filter (λv=>!ew slot v) from(ot ah (by show(!ew slot _)=false;rw[al];rfl)).symm] at U
     refine aU λI a w U=>?_
     exact U.ag (k+1,AQ,v) (ah)
    ·change ew slot (ab l k)=false at al
     refine bM λI a w U=>?_
     refine U.o (bY (pE _ (by have:=jO _ (aV ah);omega)) (aw (.t rfl) aL)) λU=>?_
     refine U.o (.li [(ab l k).cells] lH (.u .nil)) λU=>?_
     refine U.ap 1 λHX a w U=>?_
     rw[cA,<-oA (p:=(λv=>!ew slot v)) ah (by show(!ew slot _)=true;rw[al];rfl),show(l.take k).filter (ew slot)=(l.take (k+1)).filter (ew slot) from(ot ah al).symm] at U
     refine aU λI a w U=>?_
     exact U.ag (k+1,u,HX) (ah)
   ·refine zt ?_
    refine aU λI a w U=>?_
    obtain⟨I,U⟩:=U.fr 0 4
    obtain⟨I,U⟩:=U.fr 1 5
    refine U.rt ?_
    exact(by rw[List.take_of_length_le (by omega)];rfl)
theorem A6 (l:List au) (d:au):
 Fn Tryz.prog 221 [bm l,d.av] (AV.int (fH l d)):=by
 refine Fn.go 19 Tryz.func221 Tryz.ntmps221 (λW I a U=>?_)
 have hle:=U.cW (t:=0) rfl
 refine aI λI a w U=>?_
 refine St.lo (σ:=Nat) (run 15 4 []) ⟨λk=>[(5,AV.int k)],λk=>[],λk=>k<=l.length/\∀i,i<k->(λe=>decide (e=d)) (ab l i)=false⟩ (λk=>l.length-k) 0 U ?aJ ?aK
 case aJ=>exact⟨Nat.zero_le _,λi hi=>by omega⟩
 case aK=>
  rintro k I a w aj U
  obtain⟨hk,aN⟩:=aj
  refine aU λI a w U=>?_
  refine cz (λae=>?_) λae=>?_
  ·refine zt ?_
   refine U.dk ?_
   refine fi ?_
   refine .o (mM [_,_,_] [_,_,_] uT rfl rfl .tt .tt)<|.nil ?_
   intro I a w U
   refine aY ?_
   refine U.cd (λah=>?_) λah=>?_
   ·rw[yo] at ah
    refine aA λI a w U=>?_
    refine U.rt ?_
    exact fD (nA ae aN ah).symm
   ·rw[yo] at ah
    refine aI λI a w U=>?_
    exact U.ag (k+1) (⟨ae,λi h1=>by rcases Nat.lt_succ_iff_lt_or_eq.1 h1 with h|h;exact aN i h;rw[h];exact ah⟩)
  ·refine zt ?_
   refine ai λI a w U=>?_
   refine U.rt ?_
   exact fD (mR (by omega) aN).symm
theorem PX (s:Server) (d:au):
 Fn Tryz.prog 240 [s.av,d.av] (AV.bool (jy s d)):=by
 refine Fn.go 22 Tryz.func240 Tryz.ntmps240 (λW I a U=>?_)
 have lens:s.aG.length<=9223372036854775807/\s.ao.length<=9223372036854775807/\s.waits.length<=9223372036854775807/\s.aD.length<=9223372036854775807/\s.bl.length<=9223372036854775807:=⟨U.ln 0 2,U.ln 0 3,U.ln 0 4,U.ln 0 5,U.ln 0 6⟩
 refine aU λI a w U=>?_
 refine St.lo (σ:=Nat) (run 18 4 []) ⟨λk=>[(5,AV.int k)],λk=>[],λk=>k<=s.waits.length/\∀i,i<k->(λi=>!qH d (ab s.waits i)) i=true⟩ (λk=>s.waits.length-k) 0 U ?aJ ?aK
 case aJ=>exact⟨Nat.zero_le _,λi hi=>by omega⟩
 case aK=>
  rintro k I a w aj U
  obtain⟨o1,aN⟩:=aj
  refine ck λI a w U=>?_
  refine cz (λae=>?_) λae=>?_
  ·refine zt ?_
   refine U.dk ?_
   refine lF ?_
   refine .o (.cl (A6 ..)) ?_
   refine bn ?_
   refine .nil ?_
   intro I a w U
   refine aY ?_
   refine cz (λah=>?_) λah=>?_
   ·refine ai λI a w U=>?_
    refine U.rt ?_
    exact bG (by unfold jy;rw[eB (f:=λi=>!qH d (ab s.waits i)) ae (by unfold qH;simp;omega)];rfl)
   ·refine aI λI a w U=>?_
    exact U.ag (k+1) (⟨by omega,fg aN (by unfold qH;simp;omega)⟩)
  ·refine zt ?_
   refine ai λI a w U=>?_
   refine U.rt ?_
   exact bG (by unfold jy;rw[eP aN (by omega)];rfl)
theorem HY {α:Type} [Inhabited α] {p:α->Bool} {l:List α}:hasB p l=true↔∃x∈l,p x=true:=⟨Gv,λ⟨_,hx,hp⟩=>Dr hx hp⟩
theorem Dy {α:Type} [Inhabited α] {p:α->Bool} {l:List α}:hasB p l=false↔∀x∈l,p x=false:=by
 rw[<-Bool.not_eq_true,HY]
 exact⟨λh x hx=>by cases hp:p x;rfl;exact absurd ⟨x,hx,hp⟩ h,λh ⟨x,hx,hp⟩=>by rw[h x hx] at hp;cases hp⟩
theorem PY:∀{l:List au} {d:au},(l.Pairwise λa b=>dZ a b=true)->(∀x∈l,x≠d)->(lg l d).Pairwise λa b=>dZ a b=true
 |[],d,_,_=>by simp[lg]
 |e::r,d,h,hn=>by
  unfold lg
  rw[List.pairwise_cons] at h
  split
  ·rename_i hl
   rw[List.pairwise_cons]
   refine⟨λx hx=>?_,List.pairwise_cons.2 h⟩
   rcases List.mem_cons.1 hx with rfl|hx
   ·exact hl
   ·exact yk hl (h.1 x hx)
  ·rename_i hl
   rw[List.pairwise_cons]
   refine⟨λx hx=>?_,PY h.2 λx hx=>hn x (by simp[hx])⟩
   rcases CP.1 hx with rfl|hx
   ·cases hd:dZ e x with
    |true=>rfl
    |false=>exact absurd (CV hd (by simpa using hl)) (hn e (by simp))
   ·exact h.1 x hx
theorem xj {l:List au} {d:au}:0<=fH l d↔d∈l:=by
 have:=HY (p:=λe=>decide (e=d)) (l:=l)
 unfold hasB at this
 simp only[decide_eq_true_eq] at this
 unfold fH
 rw[this]
 exact⟨λ⟨x,hx,e⟩=>e▸hx,λh=>⟨d,h,rfl⟩⟩
theorem Dz {l:List au} (h:bN l=true):∀d∈l,lZ d=true:=λd hd=>pe h hd
theorem HZ {s:Server} {m:aC} (h:bF s) (hm:bO m=true):∀x∈kj s m,db x=true:=by
 intro x hx
 unfold kj at hx
 rcases List.mem_append.1 hx with hx|hx
 ·obtain⟨d,hd,rfl⟩:=List.mem_map.1 hx
  have:=Dz (mW hm).2.2.2.2.2.2.2.1 d hd
  simp only[lZ,Bool.and_eq_true] at this;exact this.2
 ·split at hx
  ·rename_i v hv
   obtain rfl:x=v.aq:=by simpa using hx
   exact(jk (gu h.ao v (Ay hv).1)).2.1
  ·simp at hx
theorem DA {s:Server} (h:bF s) {i:Nat} (hi:i<3):qz (ab s.aG i)=true:=h.aW _ (aV (by rw[h.aG];exact hi))
theorem PZ {n:Int} (h:cL n=true):cL (fl n)=true:=by
 rw[m0] at*
 unfold fl;split<;>omega
theorem yS {l:List aB} {d:au} {v:aB} (h:dU l d=some v):v∈l/\v.aT=d:=by
 unfold dU at h
 split at h
 ·rename_i hp
  obtain⟨h1,h2⟩:=lL hp
  cases h
  exact⟨aV h1,h2⟩
 ·cases h
theorem aaa {s:Server} (h:bF s) {i:Nat} (hi:i<3):0<=(ab s.aG i).bz/\(ab s.aG i).bz<=9999:=by
 have:=wO.1 (DA h hi);exact⟨this.1,this.2.1⟩
theorem aab {s:Server} (h:bF s) {d:au} (hd:lZ d=true):bO (mV s d)=true:=by
 simp only[lZ,Bool.and_eq_true] at hd
 exact tO ⟨by simp[mV],by simp[mV]⟩ (pG h.site) (pG (PZ h.site)) ⟨by simp[mV,cg],by simp[mV,cg]⟩ hd.1 (Am hd.2) ⟨by simp[mV,cg],by simp[mV,cg]⟩ rS ⟨by simp[mV,cg],by simp[mV,cg]⟩ ⟨by simp[mV,cg],by simp[mV,cg]⟩ pH pH wE
theorem aac {s:Server} (h:bF s):∀d∈wX s,lZ d=true:=by
 intro d hd
 rcases NZ hd with hd|hd
 ·simp at hd
 ·obtain⟨ds,h1,h2⟩:=List.mem_flatten.1 hd
  obtain⟨v,hv,rfl⟩:=List.mem_map.1 h1
  exact Dz (jk (gu h.waits v hv)).2.2 d h2
theorem aad {s:Server} (h:bF s) {i:Nat} (hi:i∈leaving s):i<3:=by
 have:=List.mem_range.1 (qJ hi)
 rw[h.aG] at this;exact this
theorem DB {q:Call} {key:Int}:0<=cv q key↔∃a∈q.az,a.key=key:=by
 have:=HY (p:=tE key) (l:=q.az)
 unfold hasB at this
 rw[decide_eq_true_eq] at this
 unfold cv
 rw[this]
 simp[tE]
theorem xk {q:Call} {key:Int} (h:0<=cv q key):(cv q key).toNat<q.az.length/\(ab q.az (cv q key).toNat).key=key:=by
 refine⟨vq h,?_⟩
 unfold cv cM at*
 split at h
 ·rename_i k hk
  obtain⟨h1,h2,_⟩:=List.findIdx?_eq_some_iff_getElem.1 hk
  simpa[ab,h1,tE] using h2
 ·omega
theorem P0 {q:Call} {d:au} (h:d∈kO q):∃a∈q.az,d=⟨a.key,bx (eW q) a.key⟩/\bP a.be.aq d.aq=true:=by
 unfold kO at h
 obtain⟨ds,h1,h2⟩:=List.mem_flatten.1 h
 obtain⟨a,ha,rfl⟩:=List.mem_map.1 h1
 unfold oh at h2
 split at h2
 ·rename_i hl
  obtain rfl:d=_:=by simpa using h2
  exact⟨a,ha,rfl,hl⟩
 ·simp at h2
structure cx (w:aE):Prop where
 time:0<=w.time
 ax:w.ax.length=4
 site:∀i,i<4->(ab w.ax i).site=(i:Int)/\bF (ab w.ax i)
 ar:w.ar.length<=60
 words:∀m∈w.ar,bO m=true
 seen:w.seen.length=2
 jD:∀l∈w.seen,bN l=true
 calls:jq w.calls w.time=true
theorem cx.send {w:aE} (h:cx w) {more:List aC} (hm:∀m∈more,bO m=true):cx {w with ar:=eF w.ar more}:=
 ⟨h.time,h.ax,h.site,WA h.ar,WB h.words hm,h.seen,h.jD,h.calls⟩
theorem cx.server {w:aE} (h:cx w) {i:Nat} (hi:i<4) {s:Server} (U:bF s) (he:s.site=(ab w.ax i).site):cx {w with ax:=w.ax.set i s}:=by
 refine⟨h.time,by show(w.ax.set _ _).length=4;rw[List.length_set];exact h.ax,λj hj=>?_,h.ar,h.words,h.seen,h.jD,h.calls⟩
 show(ab (w.ax.set i s) j).site=j/\bF (ab (w.ax.set i s) j)
 rw[ld (by rw[h.ax];exact hi)]
 split
 ·subst_vars;exact⟨he.trans (h.site _ hi).1,U⟩
 ·exact h.site j hj
theorem cx.aae {w:aE} (h:cx w) (i:Nat) {l:List au} (hl:bN l=true):cx {w with seen:=w.seen.set i l}:=
 ⟨h.time,h.ax,h.site,h.ar,h.words,by show(w.seen.set _ _).length=2;rw[List.length_set];exact h.seen,λx hx=>by
  rcases List.mem_or_eq_of_mem_set hx with hx|rfl
  ·exact h.jD x hx
  ·exact hl,h.calls⟩
theorem aaf {a b:au} (h:dZ a b=true):dZ b a=false:=by
 cases h2:dZ b a
 ·rfl
 ·have:=yk h h2;rw[Aw] at this;cases this
theorem P1 {l:List au} {d:au} (h:fH l d<0):∀x∈l,x≠d:=λx hx e=>by
 have:=xj.2 (e▸hx);omega
theorem ub (s:Server) (m x:aC) (h:kD x):
 Fn Tryz.prog 248 [s.av,m.av,x.av] (bq [{x with aR:=s.site,to:=m.aR}]):=by
 refine Fn.go 16 Tryz.func248 Tryz.ntmps248 (λW I a U=>?_)
 refine aF λI a w U=>?_
 refine U.box rfl .tt λb5 I a w U=>?_
 refine ai λI a w U=>?_
 refine U.eo [([],none),([],none),([],none),([],none),([],none),([0],some (0,[])),([],none),([0],some (0,[]))] (by kernel_rfl) (by kernel_rfl) rfl ?_
 refine fi ?_
 refine aS.iW (x:=AV.any) 0 (λF W0 I0 I a w Q U kk=>U.s1 0 λU=>kk _ _ _ U) ?_
 refine bn ?_
 refine aS.iW (x:=AV.any) 0 (λF W0 I0 I a w Q U kk=>U.s1 0 λU=>kk _ _ _ U) ?_
 refine .nil ?_
 intro I a w U
 refine bH λI a w U=>?_
 refine U.o (.c1 (A4 {x with aR:=s.site,to:=m.aR} h)) λU=>?_
 refine U.o (.li [({x with aR:=s.site,to:=m.aR}:aC).cells] gP (.u .nil)) λU=>?_
 refine ai λI a w U=>?_
 refine U.rt ?_
 rfl
theorem aag (s:Server) (m:aC) (aj:eK s) (ho:s.aD.length<=80) (hm:bO m=true):
 Fn Tryz.prog 213 [s.av,m.av] ((mY s m).av):=by
 refine Fn.go 57 Tryz.func213 Tryz.ntmps213 (λW I a U=>?_)
 have jX:=qF (NY hm)
 have h3:=aj.aG
 have yT:=λh=>NX (l:=s.aD) (d:=⟨m.key,m.aq⟩) h
 refine sr<|U.box rfl .tt λb2 I a w U=>U.o .bp λU=>U.alloc rfl cm dF λb4 I a w U=>?_
 refine dD λI a w U=>?_
 refine U.o (.bd fL (.k (.t bf.nil))) λU=>?_
 refine U.o (.cl (A6 s.aD ⟨m.key,m.aq⟩)) λU=>?_
 refine ai λI a w U=>?_
 refine U.dk ?_
 refine bT ?_
 refine .o (.c1 (rP ..)) ?_
 refine dq ?_
 refine .q .F (.cl (qw ..)) ?_
 refine bT ?_
 refine .q .F (.cl (qw ..)) ?_
 refine Af ?_
 refine .q .F (.cl (uV ..)) ?_
 refine fi ?_
 refine .nil ?_
 intro I a w U
 refine aY ?_
 refine U.cd (λae=>?_) λae=>?_
 ·rw[N2 s m] at ae;replace ae:=nt ae
  refine aA λI a w U=>?_
  refine U.ret rfl (.cons (.sx 1) aX.nil) ?_
  exact(by unfold mY;rw[ae];rfl)
 ·rw[N2 s m] at ae;replace ae:=nf ae
  refine zt ?_
  have U:=U.fT
  refine U.eo [([],none),([],none),([0],none),([],none),([],none),([2],some (2,[48])),([],none),([0],none),([],none),([],none),([],none),([2],some (2,[])),([],none),([0],some (0,[]))] (by kernel_rfl) (by kernel_rfl) rfl ?_
  refine .o (rG dJ cH) ?_
  refine bn ?_
  refine .r [0] (.lb 0) ?_
  refine bn ?_
  refine .o (te dJ cH .r .tt (λ_=>by simp only[B] at ae;have h9:=yT (by omega);simp only[List.length_map];omega)) ?_
  refine aS.wh 2 rfl rfl dJ cH rfl .tt .r (by simp;omega) ?_
  refine bn ?_
  refine .r [0] (.lb 0) ?_
  refine bn ?_
  refine .o (kS .tt .c (λ_=>by simp only[B] at ae;have h9:=yT (by omega);omega)) ?_
  refine .o (BV dJ cH .r .tt (λ_=>by simp only[B] at ae;have h9:=yT (by omega);simp only[List.length_map];omega)) ?_
  refine aS.xW 2 rfl rfl dJ cH rfl .r (by simp;omega) ?_
  refine bn ?_
  refine aS.iW (x:=AV.any) 0 (λF W0 I0 I a w Q U kk=>U.s1 0 λU=>kk _ _ _ U) ?_
  refine .nil ?_
  intro I a w U
  rw[<-List.map_take,<-List.map_drop,<-List.map_append] at U
  refine aA λI a w U=>?_
  refine U.ret rfl (.cons (.sx 1) aX.nil) ?_
  exact(by unfold mY;rw[ae];have h9:=yT (by simp only[B] at ae;omega);rw[show((fH s.aD ⟨m.key,m.aq⟩)+1).toNat=(fH s.aD ⟨m.key,m.aq⟩).toNat+1 by simp only[B] at ae;omega];rfl)
theorem aah {l:List aB} {v:aB} (hv:dM v=true) (hl:l.length<80):(if jw l v then fk l v else l)=eH l v:=by
 unfold jw eH
 rw[hv]
 by_cases hp:placeOf l v.aT<0
 ·simp[hp,hl]
 ·simp[hp]
theorem aai {s:Server} {v:aB} (hk:dp v.key=true):(gv s v.key&&!hasB (λd=>!mX s d) v.aO)=ll s v:=by
 have e:=yP (p:=λd=>!mX s d) (l:=v.aO)
 simp only[Bool.not_not] at e
 unfold gv ll AE
 rw[hk,e]
 simp
theorem P2 {q:Call} {t:Int} (h:eX q (q.bD+q.end_)=true) (he:0<=q.end_):(!eX q (q.bD+q.end_)||decide (0<q.end_)||q.over)=!gQ q:=by
 rw[h]
 unfold gQ
 have e:decide (0<q.end_)=!(q.end_==0):=by rw[Bool.eq_iff_iff];simp;omega
 rw[e];simp
theorem DC (v:Value) (ar more:List aC) (hr:ar.length<=60):
 jK Tryz.prog 174 [AV.val v,bq more] [Own.row v 70 15 (ar.map aC.cells)] [] (bq (eF ar more)):=by
 refine c7.intro 25 Tryz.func174 rfl Tryz.ntmps174 rfl (by kernel_rfl) (λW I a U=>?_)
 have hle:=U.cW (t:=1) rfl
 refine aA λI a w U=>?_
 refine St.lo (σ:=Nat×Value) (0::(run 19 5 [])) ⟨λ⟨k,u⟩=>[(5,AV.int k),(0,AV.val u)],λ⟨k,u⟩=>[Own.row u 70 15 ((wF ar more k).map aC.cells)],λ⟨k,u⟩=>k<=more.length/\k<=60-ar.length⟩ (λ⟨k,u⟩=>more.length-k) (0,v) U ?aJ ?aK
 case aJ=>exact⟨Nat.zero_le _,Nat.zero_le _⟩
 case aK=>
  rintro⟨k,u⟩ I a w aj U
  obtain⟨hk,eD⟩:=aj
  have bw:(more.take k).length=k:=by simp;omega
  have DD:=MK ar more k hk
  dsimp only at U
  refine dD λI a w U=>?_
  refine U.q .T (rz 0 eU .ag rfl) λU=>?_
  refine aA λI a w U=>?_
  refine nw (λae=>?_) λae=>?_
  ·rw[List.length_map] at ae;rw[DD] at ae;replace ae:k<more.length/\(ar++more.take k).length<60:=⟨ae.1,by omega⟩
   refine bk λI a w U=>?_
   refine U.o ((by first|exact dS eU dr .tt .tt (λ_=>by exact ae.1)|exact fS eU dr .tt .tt (λ_=>by exact ae.1)|exact fZ eU dr .tt .tt (λ_=>by exact ae.1))) λU=>?_
   refine U.o .la λU=>?_
   refine U.o (.li [(ab more k).cells] gP (.u .nil)) λU=>?_
   refine U.append 0 rfl eU dr rfl .tt .r rfl (by rw[DD];simp;omega) λDd a w U=>?_
   rw[cA,show wF ar more k++[ab more k]=wF ar more (k+1) from rfl] at U
   refine aU λI a w U=>?_
   exact U.ag (k+1,Dd) (⟨ae.1,by have:=ae.2;rw[List.length_append,bw] at this;omega⟩)
  ·replace ae:¬(k<more.length/\(ar++more.take k).length<60):=λhh=>by rw[DD] at ae;simp at ae;simp at hh;omega
   refine wp_exit<|cN<|cN<|gw<|aY<|wp_seq ?_
   rw[DD,WD hr hk eD ae] at U
   obtain⟨I,U⟩:=U.fr 0 0
   refine aA λI a w U=>?_
   refine U.de () [] rfl (.cons (.t rfl) .nil) trivial rfl rfl
theorem H4 {w:aE} {e:Ev} (h:(ff e.an&&decide (cq w.calls e.an<0))=false):kQ w e=(w,false):=by unfold kQ;rw[h];rfl
theorem A7 {w:aE} {e:Ev} (h:(ff e.an&&decide (cq w.calls e.an<0))=true):kQ w e=({w with calls:=w.calls++[jx w e]},jq (w.calls++[jx w e]) w.time):=by unfold kQ;rw[h];rfl
theorem cx.P3 {w:aE} (h:cx w) {i:Nat} (hi:i<2):(ab w.seen i).length<=6:=gR (h.jD _ (aV (by rw[h.seen];exact hi)))
theorem fW (br:Nat) (code:List UInt8) (p n:Int) (hp:0<=p/\p<=1099511627775) (hb:code.length<=1099511627776):
 jK Tryz.prog 39 [AV.val (.pointer (some ⟨br,0,none⟩)),AV.int n] [Own.box br 95 [bE code,AV.int (p)]] [Own.box br 95 [bE code,AV.int (p+1)]] (AV.int (dA code p n)):=by
 refine c7.intro 99 Tryz.func39 rfl Tryz.ntmps39 rfl (by kernel_rfl) (λW I a U=>?_)
 refine FX λI a w U=>?_
 refine U.cd (λae=>?_) λae=>?_
 ·refine ai λI a w U=>?_
  refine U.de () [0] rfl (.cons (.t rfl) .nil) trivial rfl ?_
  exact congrArg AV.int (XC ae)
 ·replace ae:=WL ae
  refine Cn λI a w U=>?_
  refine cz (λah=>?_) λah=>?_
  ·refine gz λI a w U=>?_
   refine U.o (B3 (by kernel_rfl) ny .tt (λ_=>by have y1:=(ab code (p+1-1).toNat).toNat_lt;omega)) λU=>?_
   refine U.m λU=>?_
   refine U.o (tg .tt .tt (λ_=>by have y1:=(ab code (p+1-1).toNat).toNat_lt;omega)) λU=>?_
   refine ai λI a w U=>?_
   refine U.de () [0] rfl (.cons (.t rfl) .nil) trivial rfl<|congrArg AV.int ?_
   unfold dA
   rw[if_neg ae,if_pos (by omega),Int.add_sub_cancel]
   rfl
  ·refine wp_skip<|aY<|wp_seq<|U.dk ?_
   refine oY ?_
   refine .o (tg .tt .tt (λ_=>by omega)) ?_
   refine .o ((by first|exact dS uS uQ .tt .tt (λ_=>by have h9:=Int.emod_nonneg (p+1-1) (show(code.length:Int)≠0 by omega);have h8:=Int.emod_lt_of_pos (p+1-1) (show(0:Int)<code.length by omega);omega)|exact fS uS uQ .tt .tt (λ_=>by have h9:=Int.emod_nonneg (p+1-1) (show(code.length:Int)≠0 by omega);have h8:=Int.emod_lt_of_pos (p+1-1) (show(0:Int)<code.length by omega);omega)|exact fZ uS uQ .tt .tt (λ_=>by have h9:=Int.emod_nonneg (p+1-1) (show(code.length:Int)≠0 by omega);have h8:=Int.emod_lt_of_pos (p+1-1) (show(0:Int)<code.length by omega);omega))) ?_
   refine bn ?_
   refine .o (B3 (by kernel_rfl) ny .tt (λ_=>by have y1:=(ab code ((p+1-1)%(code.length:Int)).toNat).toNat_lt;omega)) ?_
   refine .o (kf .tt .c (λ_=>by have y1:=ov code ((p+1-1)%code.length);have y2:=ow code ((p+1-1)%code.length);have y3:=ov code (((p+1-1)*7+3)%code.length);have y4:=ow code (((p+1-1)*7+3)%code.length);have y5:=wR (k:=p+1-1) (m:=code.length) (by omega) (by omega);unfold pO at y1 y2 y3 y4;omega)) ?_
   refine fi ?_
   refine .o (kf .tt .c (λ_=>by omega)) ?_
   refine fK ?_
   refine .o (tg .tt .tt (λ_=>by omega)) ?_
   refine .o ((by first|exact dS uS uQ .tt .tt (λ_=>by have h9:=Int.emod_nonneg ((p+1-1)*7+3) (show(code.length:Int)≠0 by omega);have h8:=Int.emod_lt_of_pos ((p+1-1)*7+3) (show(0:Int)<code.length by omega);omega)|exact fS uS uQ .tt .tt (λ_=>by have h9:=Int.emod_nonneg ((p+1-1)*7+3) (show(code.length:Int)≠0 by omega);have h8:=Int.emod_lt_of_pos ((p+1-1)*7+3) (show(0:Int)<code.length by omega);omega)|exact fZ uS uQ .tt .tt (λ_=>by have h9:=Int.emod_nonneg ((p+1-1)*7+3) (show(code.length:Int)≠0 by omega);have h8:=Int.emod_lt_of_pos ((p+1-1)*7+3) (show(0:Int)<code.length by omega);omega))) ?_
   refine bn ?_
   refine .o (B3 (by kernel_rfl) ny .tt (λ_=>by have y1:=(ab code (((p+1-1)*7+3)%(code.length:Int)).toNat).toNat_lt;omega)) ?_
   refine .o (kf .tt .c (λ_=>by have y1:=ov code ((p+1-1)%code.length);have y2:=ow code ((p+1-1)%code.length);have y3:=ov code (((p+1-1)*7+3)%code.length);have y4:=ow code (((p+1-1)*7+3)%code.length);have y5:=wR (k:=p+1-1) (m:=code.length) (by omega) (by omega);unfold pO at y1 y2 y3 y4;omega)) ?_
   refine .o (kS .tt .tt (λ_=>by have y1:=ov code ((p+1-1)%code.length);have y2:=ow code ((p+1-1)%code.length);have y3:=ov code (((p+1-1)*7+3)%code.length);have y4:=ow code (((p+1-1)*7+3)%code.length);have y5:=wR (k:=p+1-1) (m:=code.length) (by omega) (by omega);unfold pO at y1 y2 y3 y4;omega)) ?_
   refine bn ?_
   refine .o (kf .tt .c (λ_=>by omega)) ?_
   refine .o (kS .tt .tt (λ_=>by have y1:=ov code ((p+1-1)%code.length);have y2:=ow code ((p+1-1)%code.length);have y3:=ov code (((p+1-1)*7+3)%code.length);have y4:=ow code (((p+1-1)*7+3)%code.length);have y5:=wR (k:=p+1-1) (m:=code.length) (by omega) (by omega);unfold pO at y1 y2 y3 y4;omega)) ?_
   refine fK ?_
   refine .o (tf .tt .tt (λ_=>by omega)) ?_
   refine .o (kf .tt .c (λ_=>by have y1:=ov code ((p+1-1)%code.length);have y2:=ow code ((p+1-1)%code.length);have y3:=ov code (((p+1-1)*7+3)%code.length);have y4:=ow code (((p+1-1)*7+3)%code.length);have y5:=wR (k:=p+1-1) (m:=code.length) (by omega) (by omega);unfold pO at y1 y2 y3 y4;omega)) ?_
   refine .o (kS .tt .tt (λ_=>by have y1:=ov code ((p+1-1)%code.length);have y2:=ow code ((p+1-1)%code.length);have y3:=ov code (((p+1-1)*7+3)%code.length);have y4:=ow code (((p+1-1)*7+3)%code.length);have y5:=wR (k:=p+1-1) (m:=code.length) (by omega) (by omega);unfold pO at y1 y2 y3 y4;omega)) ?_
   refine bn ?_
   refine .nil ?_
   intro I a w U
   have pB:=XB (bs:=code) (k:=p) hp.1 (by omega) (by omega)
   rw[Int.add_sub_cancel] at U
   change St _ _ _ ((6,AV.int (wP code p))::_) _ _ at U
   generalize hX:wP code p=X at U pB
   refine aF λI a w U=>?_
   refine U.o (tf .tt .c (λ_=>by omega)) λU=>?_
   refine U.o (Ls .tt .tt (λ_=>by omega)) λU=>?_
   refine bk λI a w U=>?_
   refine U.o (tg .tt .tt (λ_=>by have:=Lq (m:=X) (n:=X/64);have:=Lr (m:=X) (n:=X/64) (by omega) (by omega);omega)) λU=>?_
   refine ai λI a w U=>?_
   refine U.de () [0] rfl (.cons (.t rfl) .nil) trivial rfl<|congrArg AV.int ?_
   unfold dA
   rw[if_neg ae,if_neg (by omega),hX]
theorem mG (x:aE) (h:yn x):
 Fn Tryz.prog 22 [x.av,x.av] (AV.bool true):=by
 refine Fn.go 105 Tryz.func22 Tryz.ntmps22 (λW I a U=>?_)
 obtain⟨⟨h1,h2⟩,⟨h3,h4⟩,⟨h5,h6⟩,h7,h8⟩:=h
 refine FV λI a w U=>?_
 refine lE λI a w U=>?_
 refine U.q .F (.cl (Yn ..)) λU=>?_
 refine aA λI a w U=>?_
 refine U.cd (λae=>?_) λae=>?_
 ·exfalso;simp at ae
  skip
 ·refine ai λI a w U=>?_
  refine St.lo (σ:=Nat) (run 2 4 (run 19 48 [])) ⟨λk=>[(5,AV.int k)],λk=>[],λk=>k<=x.ax.length⟩ (λk=>x.ax.length-k) 0 U ?aJ ?aK
  case aJ=>exact Nat.zero_le _
  case aK=>
   rintro k I a w aj U
   have hk:k<=x.ax.length:=aj
   refine ck λI a w U=>?_
   refine cz (λah=>?_) λah=>?_
   ·refine zt ?_
    refine U.dk ?_
    refine oY ?_
    refine .o (.c2 (Yo (ab x.ax k) (h2 _ (aV ah)).1)) ?_
    refine bn ?_
    refine .nil ?_
    intro I a w U
    refine aY ?_
    refine U.cd (λal=>?_) λal=>?_
    ·exfalso;simp at al
     skip
    ·refine aI λI a w U=>?_
     exact U.ag (k+1) (ah)
   ·refine zt ?_
    refine ai λI a w U=>?_
    refine St.lo (σ:=Nat) (4::(6::(run 19 67 []))) ⟨λk=>[(6,AV.int k)],λk=>[],λk=>k<=x.calls.length⟩ (λk=>x.calls.length-k) 0 U ?cU ?cV
    case cU=>exact Nat.zero_le _
    case cV=>
     rintro k I a w aj U
     have hk:k<=x.calls.length:=aj
     refine ck λI a w U=>?_
     refine cz (λaH=>?_) λaH=>?_
     ·refine zt ?_
      refine U.dk ?_
      refine oY ?_
      refine .o (.c2 (Yq (ab x.calls k) (h6 _ (aV aH)).1)) ?_
      refine bn ?_
      refine .nil ?_
      intro I a w U
      refine aY ?_
      refine U.cd (λaM=>?_) λaM=>?_
      ·exfalso;simp at aM
       skip
      ·refine aI λI a w U=>?_
       exact U.ag (k+1) (aH)
     ·refine zt ?_
      refine ai λI a w U=>?_
      refine St.lo (σ:=Nat) (4::(7::(run 19 86 []))) ⟨λk=>[(7,AV.int k)],λk=>[],λk=>k<=x.seen.length⟩ (λk=>x.seen.length-k) 0 U ?fo ?fq
      case fo=>exact Nat.zero_le _
      case fq=>
       rintro k I a w aj U
       have hk:k<=x.seen.length:=aj
       refine ck λI a w U=>?_
       refine cz (λbh=>?_) λbh=>?_
       ·refine zt ?_
        refine U.dk ?_
        refine oY ?_
        refine .o (.cl (tT (ab x.seen k))) ?_
        refine bn ?_
        refine .nil ?_
        intro I a w U
        refine aY ?_
        refine U.cd (λaZ=>?_) λaZ=>?_
        ·exfalso;simp at aZ
         skip
        ·refine aI λI a w U=>?_
         exact U.ag (k+1) (bh)
       ·refine zt ?_
        refine ai λI a w U=>?_
        refine U.rt ?_
        rfl
theorem uc {w:aE} (hg:cx w) {i:Nat} (hi:i<4) (s:Server) (j:Nat):sv (dO w i s) j=if j=i then s else sv w j:=ld (by rw[hg.ax];exact hi)
theorem oG {w:aE} (hg:cx w) {i:Nat} (hi:i<4) (s:Server):sv (dO w i s) i=s:=by rw[uc hg hi,if_pos rfl]
theorem yU {w:aE} (hg:cx w) {i:Nat} (hi:i<4) (s:Server) {j:Nat} (hj:j≠i):sv (dO w i s) j=sv w j:=by rw[uc hg hi,if_neg hj]
theorem P4 {w:aE} (hg:cx w) {i:Nat} (hi:i<4) (s:Server):sv (dO w i s) (bW i)=sv w (bW i):=yU hg hi s (Gk i)
theorem P5 {w:aE} (hg:cx w) {i:Nat} (hi:i<4) {s:Server} (U:bF s) (he:s.site=(sv w i).site):cx (dO w i s):=hg.server hi U he
theorem P6 {a b:List au} (ha:bN a=true) (hb:bN b=true):qv b (iK a b):=λkey=>by rw[A1 ha hb];exact yh _ _
theorem P7 {l:List Answer} {key:Int}:kd l key=eV\/∃b∈l,bx b.be.aO key=kd l key:=by
 induction l with
 |nil=>exact .inl rfl
 |cons b r ih=>
  show du (bx b.be.aO key) (kd r key)=eV\/∃x∈b::r,_=du (bx b.be.aO key) (kd r key)
  unfold du
  split
  ·rcases ih with ih|⟨x,hx,e⟩
   ·exact .inl ih
   ·exact .inr ⟨x,List.mem_cons_of_mem _ hx,e⟩
  ·exact .inr ⟨b,List.mem_cons_self ..,rfl⟩
end Go.Proofs.YtjepcfpkclegdaaGreat
