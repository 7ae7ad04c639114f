/- Part 23: rules of the proofs, contracts of functions, plain facts. -/
import Derived.Test.YtoeioeimmfpefaaGreatP22
set_option linter.unusedVariables false
set_option linter.unusedSimpArgs false
set_option maxRecDepth 100000
set_option maxHeartbeats 4000000
namespace Go.Proofs.YtoeioeimmfpefaaGreat
open Go Go.RowKit
attribute [local irreducible] wpList Code.wp Ok
def mf (l:List ct):Int:=l.foldl (fun t s=>if t<s.time then s.time else t) 0
theorem wM {l:List ct} {k:Nat} (h:k<l.length):mf (l.take (k+1))=if mf (l.take k)<(ab l k).time then(ab l k).time else mf (l.take k):=by
 unfold mf;rw[dL h,List.foldl_append];rfl
theorem CC:∀{l:List ct} {t:Int},0≤t→t≤9999→(∀s∈l,c6 s=true)→0≤l.foldl (fun t s=>if t<s.time then s.time else t) t∧l.foldl (fun t s=>if t<s.time then s.time else t) t≤9999
 |[],t,h0,h1,_=>⟨h0,h1⟩
 |s::l,t,h0,h1,h=>by
  have hs:=h s (by simp)
  simp[c6,aQ] at hs
  rw[List.foldl_cons]
  split
  ·exact CC (by omega) (by omega) fun x hx=>h x (by simp[hx])
  ·exact CC h0 h1 fun x hx=>h x (by simp[hx])
theorem yX {l:List ct} (h:∀s∈l,c6 s=true) (k:Nat):0≤mf (l.take k)∧mf (l.take k)≤9999:=CC (by omega) (by omega) fun s hs=>h s (List.mem_of_mem_take hs)
def iG (l:List ct):Bool:=decide (mf l<9999)
def nP (site:Int) (l:List ct):ct:=if iG l then⟨mf l+1,site⟩ else⟨0,0⟩
def qf (key:Int) (v:aK):Bool:=v.key==key
def fG (l:List aK) (key:Int):Option aK:=l.reverse.find? (qf key)
theorem Iy {l:List aK} {key:Int} {k:Nat} (hk:k<l.length) (h:∀i,k<i→i<l.length→qf key (ab l i)=false) (hp:qf key (ab l k)=true):fG l key=some (ab l k):=by
 unfold fG
 rw[List.find?_eq_some_iff_getElem]
 refine⟨hp,l.length-1-k,by simp;omega,?_,fun j hj=>?_⟩
 ·rw[List.getElem_reverse];simp[ab]
  rw[List.getElem?_eq_getElem hk];simp;congr 1;omega
 ·rw[List.getElem_reverse]
  have:=h (l.length-1-j) (by omega) (by omega)
  have e:l[l.length-1-j]'(by omega)=ab l (l.length-1-j):=by unfold ab;rw[List.getD_eq_getElem?_getD,List.getElem?_eq_getElem (by omega)];rfl
  rw[e,this];rfl
theorem Iz {l:List aK} {key:Int} (h:∀i,i<l.length→qf key (ab l i)=false):fG l key=none:=by
 unfold fG
 rw[List.find?_eq_none]
 intro x hx
 obtain⟨k,hk,rfl⟩:=hO (List.mem_reverse.1 hx)
 rw[h k hk];simp
theorem CD {l:List aK} {key:Int} {v:aK} (h:fG l key=some v):v∈l∧v.key=key:=by
 unfold fG at h
 have h1:=List.mem_of_find?_eq_some h
 have h2:=List.find?_some h
 exact⟨List.mem_reverse.1 h1,by simpa[qf] using h2⟩
def gV (l:List aK) (v:aK):Bool:=et v&&decide (placeOf l v.bH<0)&&decide (l.length<80)
def eF (slot:Int) (v:aK):Bool:=gx v.key==slot
def fH (l:List ar) (d:ar):Int:=dm (fun e=>decide (e=d)) l
def je:List ar→ar→List ar
 |[],d=>[d]
 |e::r,d=>if dD d e then d::e::r else e::je r d
def dV (l:List ar) (d:ar):List ar:=if 0≤fH l d then l else je l d
structure kD (l:List ar) (v:ar) (k:Nat) (done:Bool) (out:List ar):Prop where
 hk:k≤l.length
 eq:je l v=if done then out++l.drop k else out++je (l.drop k) v
 len:out.length≤k+done.toNat
theorem kD.zero (l:List ar) (v:ar):kD l v 0 false []:=⟨Nat.zero_le _,by simp,by simp⟩
section
variable {l:List ar} {v:ar} {k:Nat} {out:List ar} {done:Bool}
theorem kD.before (hp:kD l v k false out) (h:k<l.length) (he:dD v (ab l k)=true):kD l v (k+1) true ((out++[v])++[ab l k]):=by
 refine⟨h,?_,by have:=hp.len;simp at this⊢;omega⟩
 have:=hp.eq
 rw[jw h] at this
 simp only[je,if_pos he] at this
 rw[this];simp
theorem kD.step (hp:kD l v k done out) (h:k<l.length) (he:done=true∨dD v (ab l k)=false):kD l v (k+1) done (out++[ab l k]):=by
 refine⟨h,?_,by have:=hp.len;simp;omega⟩
 have:=hp.eq
 cases done
 ·rw[jw h] at this
  have he:dD v (ab l k)=false:=he.resolve_left (by simp)
  simp only[je,he] at this
  rw[this];simp
 ·simp only[if_true] at this⊢
  rw[this,jw h];simp
theorem kD.pZ (hp:kD l v k true out) (h:l.length≤k):out=je l v:=by
 have:=hp.eq
 rw[List.drop_eq_nil_of_le h] at this;simpa using this.symm
theorem kD.p4 (hp:kD l v k false out) (h:l.length≤k):out++[v]=je l v:=by
 have:=hp.eq
 rw[List.drop_eq_nil_of_le h] at this;simpa[je] using this.symm
end
theorem IA (l:List ar) (v:ar):(je l v).length=l.length+1:=by
 induction l with
 |nil=>rfl
 |cons x r ih=>unfold je;split<;>simp[ih]
theorem IB (l:List ar) (v:ar):(dV l v).length≤l.length+1:=by
 unfold dV;split
 ·omega
 ·rw[IA];exact Nat.le_refl _
theorem IC (e d:ar):(decide (d.key<e.key)||((e.key==d.key)&&cY d.aA e.aA))=dD d e:=by
 unfold dD
 by_cases h:e.key=d.key
 ·simp[h]
 ·have e1:(e.key==d.key)=false:=by simpa using h
  have e2:(d.key==e.key)=false:=by simpa using fun x=>h x.symm
  rw[e1,e2]
def mg (s:Server) (d:ar):Bool:=decide (0≤placeOf s.aq d)||decide (0≤fH s.bq d)
def yY (s:Server) (v:aK):Bool:=cO v.aS.length fun i=>mg s (ab v.aS i)
def nQ (d:ar) (v:aK):Bool:=decide (0≤fH v.aS d)
def gC (s:Server) (d:ar):Bool:=!cO s.waits.length fun i=>!nQ d (ab s.waits i)
def eW (s:Server) (key:Int):Bool:=cU key&&(eh s key==1)
def jU (s:Server) (v:aK):Bool:=(eh s v.key==1)&&yY s v
def eA (s:Server):Int:=if s.aq.length<80 then dm (jU s) s.waits else-1
def lu (s:Server) (n:Nat):Server:={s with aq:=eE s.aq (ab s.waits n),waits:=s.waits.take n++s.waits.drop (n+1)}
def kG:Nat→Server→Server
 |0,s=>s
 |n+1,s=>if eA s<0 then s else kG n (lu s (eA s).toNat)
def gD (s:Server):Server:=kG s.waits.length s
def yZ (s:Server):Server:={s with bq:=s.bq.filter (gC s)}
def fX (s:Server):Server:=yZ (gD s)
theorem wN {s:Server} (h:0≤eA s):(eA s).toNat<s.waits.length∧s.aq.length<80∧jU s (ab s.waits (eA s).toNat)=true:=by
 unfold eA at*
 split at h
 ·rename_i hl
  rw[if_pos hl]
  unfold dm at*
  split at h
  ·rename_i k hk
   obtain⟨h1,h2,_⟩:=List.findIdx?_eq_some_iff_getElem.1 hk
   exact⟨by simpa using h1,hl,by simpa[ab,h1] using h2⟩
  ·omega
 ·omega
theorem CE {s:Server} {n:Nat} (h:n<s.waits.length):(lu s n).waits.length=s.waits.length-1:=by simp[lu];omega
theorem ID {s:Server} (h:0≤eA s):gD s=gD (lu s (eA s).toNat):=by
 have hl:=(wN h).1
 unfold gD
 rw[CE hl]
 obtain⟨n,hn⟩:∃n,s.waits.length=n+1:=⟨s.waits.length-1,by omega⟩
 rw[hn]
 show(if eA s<0 then s else _)=_
 rw[if_neg (by omega)];rfl
theorem CF {s:Server} (h:eA s<0):gD s=s:=by
 unfold gD
 cases s.waits.length with
 |zero=>rfl
 |succ n=>show(if eA s<0 then s else _)=_;rw[if_pos h]
structure dW (s:Server):Prop where
 aR:s.aR.length=3
 aq:cg s.aq=true
 waits:cg s.waits=true
 apart:∀v∈s.waits,placeOf s.aq v.bH<0
 bq:s.bq.length≤80
def bP:aD:=⟨0,0,0,0,0,⟨0,0⟩,0,false,[],0,0,[],[],[]⟩
def eG (site:Int):Int:=if site%2=0 then site+1 else site-1
def fI (slot:Int) (d:ar):Bool:=gx d.key==slot
def fg (s:Server) (slot:Int):aD:=
 {bP with kind:=9,bc:=s.site,to:=eG s.site,slot:=slot,bO:=(ab s.aR slot.toNat).bO,aq:=s.aq.filter (eF slot),waits:=s.waits.filter (eF slot),aH:=s.aH.filter (fI slot)}
def dX (s:Server) (slot:Int):Server:=
 {s with aq:=s.aq.filter fun v=>!eF slot v,waits:=s.waits.filter fun v=>!eF slot v,aH:=s.aH.filter fun d=>!fI slot d}
def nR (s:Server) (key aC call:Int) (v:aK):Bool:=(v.key==key)&&(v.aC==aC)&&(v.call==call)&&(bV v.aA.site==bV s.site)
def jF (s:Server) (key aC call:Int):Option aK:=s.aq.find? (nR s key aC call)
def kH (s:Server) (m:aD) (st:ct):aD:={bP with kind:=2,bc:=s.site,to:=m.bc,call:=m.call,key:=m.key,aA:=st}
def iT (s:Server) (m:aD):List ct:=m.aS.map ar.aA++(match fG s.aq m.key with|some v=>[v.aA]|none=>[])
def fJ (s:Server) (m:aD):aK:=⟨m.key,nP s.site (iT s m),m.val,m.bc-10,m.call,m.aS⟩
def gE (s:Server) (m:aD):Server×List aD:=
 if aQ m.bc 10 11&&decide (1≤m.call)&&eW s m.key then
  match jF s m.key (m.bc-10) m.call with
  |some v=>(s,[kH s m v.aA])
  |none=>if iG (iT s m)&&gV s.aq (fJ s m)&&decide (s.aH.length<80) then
    (fX {s with aq:=eE s.aq (fJ s m),aH:=dV s.aH (fJ s m).bH},[kH s m (fJ s m).aA])
   else(s,[])
 else(s,[])
def kJ (s:Server) (m:aD) (o:Option aK):aD:={bP with kind:=4,bc:=s.site,to:=m.bc,call:=m.call,key:=m.key,aA:=m.aA,yes:=o.isSome,aq:=o.toList}
def gW (s:Server) (m:aD):List aD:=
 if aQ m.bc 10 11&&decide (1≤m.call)&&eW s m.key then
  if dR m.aA then[kJ s m (fG s.aq m.key)]
  else match iF s.aq ⟨m.key,m.aA⟩ with
   |some v=>[kJ s m (some v)]
   |none=>[]
 else[]
def rn (s:Server) (m:aD):Bool:=cJ m.bc&&(bV m.bc !=bV s.site)&&decide (m.aq.length=1)&&eW s (ab m.aq 0).key&&(bV (ab m.aq 0).aA.site !=bV s.site)
def kK (s:Server) (m:aD) (v:aK):aD:={bP with kind:=6,bc:=s.site,to:=m.bc,key:=v.key,aA:=v.aA}
def gF (s:Server) (m:aD):Server×List aD:=
 if rn s m then
  let v:=ab m.aq 0
  if placeOf s.aq v.bH<0∧placeOf s.waits v.bH<0 then
   if gV s.waits v then(fX {s with waits:=eE s.waits v},[kK s m v]) else(s,[])
  else(fX s,[kK s m v])
 else(s,[])
def mS (s:Server) (m:aD):Server:=
 if cJ m.bc&&(bV m.bc !=bV s.site)&&decide (0≤fH s.aH ⟨m.key,m.aA⟩)&&(eh s m.key==1) then
  {s with aH:=s.aH.take (fH s.aH ⟨m.key,m.aA⟩).toNat++s.aH.drop ((fH s.aH ⟨m.key,m.aA⟩).toNat+1)}
 else s
def kO (s:Server) (m:aD):aD:={bP with kind:=8,bc:=s.site,to:=m.bc,key:=m.key,aA:=m.aA}
def mT (s:Server) (m:aD):List aD:=if(iF s.aq ⟨m.key,m.aA⟩).isSome&&(m.bc==eG s.site) then[kO s m] else[]
def mU (s:Server) (m:aD):Server:=
 if(m.bc==eG s.site)&&gC s ⟨m.key,m.aA⟩&&decide (s.bq.length<80) then fX {s with bq:=dV s.bq ⟨m.key,m.aA⟩} else s
def mh (s:Server) (m:aD):aD:={bP with kind:=10,bc:=s.site,to:=m.bc,slot:=m.slot,bO:=m.bO}
def hZ (l:List aK) (vs:List aK):List aK:=vs.foldl iS l
def qg (s:Server) (m:aD):Server:=
 let x:=dX s m.slot
 {x with aR:=x.aR.set m.slot.toNat ⟨m.bO,1⟩,aq:=hZ x.aq m.aq,waits:=hZ x.waits m.waits,aH:=m.aH.foldl dV x.aH}
def qh (s:Server) (m:aD):Bool:=
 let x:=dX s m.slot
 decide (x.aq.length+m.aq.length≤80)&&decide (x.waits.length+m.waits.length≤80)&&decide (x.aH.length+m.aH.length≤80)
def gp (s:Server) (m:aD):Server×List aD:=
 if(m.bc==eG s.site)&&decide (1≤m.bO) then
  if m.bO≤(ab s.aR m.slot.toNat).bO then(s,[mh s m])
  else if qh s m&&fV (qg s m) then(fX (qg s m),[mh s m]) else(s,[])
 else(s,[])
def rp (s:Server) (m:aD):Server:=let x:=dX s m.slot;{x with aR:=x.aR.set m.slot.toNat ⟨m.bO,0⟩}
def mi (s:Server) (m:aD):Server:=
 if(m.bc==eG s.site)&&((ab s.aR m.slot.toNat).er==2)&&((ab s.aR m.slot.toNat).bO==m.bO) then fX (rp s m) else s
def dY (s:Server) (m:aD):Server×List aD:=
 if m.kind=1 then gE s m else if m.kind=3 then(s,gW s m) else if m.kind=5 then gF s m else if m.kind=6 then(mS s m,[]) else
 if m.kind=7 then(s,mT s m) else if m.kind=8 then(mU s m,[]) else if m.kind=9 then gp s m else if m.kind=10 then(mi s m,[]) else(s,[])
def eX (s:Server) (m:aD):Server×List aD:=if s.up&&bN m&&(m.to==s.site) then dY s m else(s,[])
def leaving (s:Server):List Nat:=(List.range s.aR.length).filter fun i=>(ab s.aR i).er==2
def jf (s:Server) (d:ar):List aD:=
 if eh s d.key==1 then[{bP with kind:=5,bc:=s.site,to:=2-2*bV s.site,aq:=(iF s.aq d).toList},{bP with kind:=5,bc:=s.site,to:=2-2*bV s.site+1,aq:=(iF s.aq d).toList}] else[]
def kf (s:Server) (d:ar):aD:={bP with kind:=7,bc:=s.site,to:=eG s.site,key:=d.key,aA:=d.aA}
def kQ (s:Server) (asked:List ar) (d:ar):List ar:=if mg s d||decide (0≤fH asked d) then asked else asked++[d]
def sP (s:Server):List ar:=(s.waits.map aK.aS).flatten.foldl (kQ s) []
def js (s:Server):List aD:=if s.up then(leaving s).map (fun i:Nat=>fg s (i:Int))++(s.aH.map (jf s)).flatten++(sP s).map (kf s) else[]
def kR (s:Server) (slot:Int):Bool:=s.up&&aQ slot 0 2&&((ab s.aR slot.toNat).er==1)&&decide ((ab s.aR slot.toNat).bO<9999)
def ly (s:Server) (slot:Int):Server:={s with aR:=s.aR.set slot.toNat ⟨(ab s.aR slot.toNat).bO+1,2⟩}
def dP (s:Server) (slot:Int):Server×aD×Bool:=if kR s slot then(ly s slot,fg (ly s slot) slot,true) else(s,bP,false)
def nS (s:Server):Server:={s with up:=false,bq:=[]}
def nT (s:Server):Server:={s with up:=true}
def wO:Call:=⟨0,0,0,[],0,[],0,0,false,⟨0,0⟩,[],[]⟩
def iH (q:Call) (m:aD):List aD:=[{m with bc:=10+q.aC,to:=2*q.aC,call:=q.num},{m with bc:=10+q.aC,to:=2*q.aC+1,call:=q.num}]
def asks (q:Call):List aD:=
 if q.kind=1 then[{bP with kind:=1,key:=ab q.keys 0,val:=q.val,aS:=q.ctx}]
 else(q.keys.filter fun k=>decide (cz q k<0)).map (fun k=>{bP with kind:=3,key:=k})++q.aM.map fun d=>{bP with kind:=3,key:=d.key,aA:=d.aA}
def gG (q:Call):Bool:=(q.end_==0)&&!q.over
def iv (q:Call):List aD:=if gG q then((asks q).map (iH q)).flatten else[]
def mj (qi:List ar) (a:Answer):List ar:=if cY a.bG.aA (bY qi a.key) then[⟨a.key,bY qi a.key⟩] else[]
def jV (q:Call):List ar:=(q.ax.map (mj (ez q))).flatten
def jW (q:Call) (time:Int):Call:=if q.aM=[] then{q with end_:=time} else q
def c7:List Answer→Answer→List Answer
 |[],a=>[a]
 |e::r,a=>if a.key<e.key then a::e::r else e::c7 r a
def lz (q:Call) (a:Answer) (time:Int):Call:=
 let x:={q with ax:=c7 q.ax a}
 if x.ax.length<x.keys.length then x else jW {x with aM:=x.aM++jV x} time
def ml (q:Call) (a:Answer) (time:Int):Call:=
 if a.bG.bH∈q.aM then
  let x:={q with ax:=q.ax.set (cz q a.key).toNat a,aM:=q.aM.filter fun d=>decide (d≠a.bG.bH)}
  if x.aM=[] then{x with end_:=time} else x
 else q
def dw (m:aD):Answer:=⟨m.key,m.yes,if m.yes then ab m.aq 0 else q5⟩
def iI (q:Call) (m:aD) (time:Int):Call:=
 if m.kind=4∧(m.yes=true→m.aq.length=1∧(ab m.aq 0).key=m.key) then
  if cz q m.key<0 then(if dR m.aA then lz q (dw m) time else q)
  else if m.yes then ml q (dw m) time else q
 else q
def c4 (q:Call) (m:aD) (time:Int):Call:=
 if bN m&&(m.to==10+q.aC)&&(m.call==q.num)&&fQ q.keys m.key&&gG q&&decide (q.bm<time) then
  if q.kind=1 then(if m.kind=2∧c6 m.aA=true then{q with aA:=m.aA,end_:=time} else q)
  else iI q m time
 else q
def dQ (ao more:List aD):List aD:=ao++more.take (60-ao.length)
def rq (aC:Int) (q:Call):Bool:=(q.aC==aC)&&(q.end_==0)&&!q.over
def bW (calls:List Call) (aC:Int):Int:=dm (rq aC) calls
def lB (e:Ev):List Int:=e.a::(if e.call=2∧e.a<e.b then e.b::(if e.b<e.c then[e.c] else[]) else[])
def qj (calls:List Call) (aC:Int):Int:=calls.foldl (fun n q=>if q.aC=aC then q.num else n) 0
def mV (w:be) (e:Ev):Call:={wO with aC:=e.aC,num:=qj w.calls e.aC+1,kind:=e.call,keys:=lB e,val:=if e.call=1 then e.val else 0,ctx:=ab w.seen e.aC.toNat,bm:=w.time}
def jt (w:be) (e:Ev):be×Bool:=
 if eC e.aC&&decide (bW w.calls e.aC<0) then({w with calls:=w.calls++[mV w e]},iu (w.calls++[mV w e]) w.time) else(w,false)
def mn (w:be) (m:aD):be:=
 let i:=bW w.calls (m.to-10)
 if i<0 then w else
  let q:=c4 (ab w.calls i.toNat) m w.time
  let w1:={w with calls:=w.calls.set i.toNat q}
  if 0<q.end_ then{w1 with seen:=w.seen.set (m.to-10).toNat (hP q)} else w1
def gX (w:be) (e:Ev):be×Bool:=
 if aQ e.word 0 ((w.ao.length:Int)-1) then
  let m:=ab w.ao e.word.toNat
  let w1:=if e.kind=5∨e.fN=0 then{w with ao:=w.ao.take e.word.toNat++w.ao.drop (e.word.toNat+1)} else w
  if e.kind=5 then(w1,true)
  else if aQ m.to 10 11 then(mn w1 m,true)
  else({w1 with au:=w.au.set m.to.toNat (eX (ab w.au m.to.toNat) m).1,ao:=dQ w1.ao (eX (ab w.au m.to.toNat) m).2},true)
 else(w,false)
def eQ (w:be) (e:Ev):be×Bool:=
 let s:=ab w.au e.at_.toNat
 if e.kind=7 then({w with au:=w.au.set e.at_.toNat (nT s)},!s.up)
 else if e.kind=6 then({w with au:=w.au.set e.at_.toNat (nS s)},s.up)
 else if e.kind=8 then({w with ao:=dQ w.ao (js s)},s.up)
 else if kR s e.slot then({w with au:=w.au.set e.at_.toNat (ly s e.slot),ao:=dQ w.ao [fg (ly s e.slot) e.slot]},true) else(w,false)
def ia (w:be) (e:Ev):be×Bool:=
 if e.kind=1 then jt w e else
 let i:=bW w.calls e.aC
 if i<0 then(w,false)
 else if e.kind=3 then({w with calls:=w.calls.set i.toNat {ab w.calls i.toNat with over:=true}},true)
 else({w with ao:=dQ w.ao (iv (ab w.calls i.toNat))},true)
def ei (w0:be) (e:Ev):be×Bool:=
 let w:={w0 with time:=w0.time+1}
 if e.kind=1∨e.kind=2∨e.kind=3 then ia w e
 else if e.kind=4∨e.kind=5 then gX w e
 else if aQ e.kind 6 9&&cJ e.at_ then eQ w e
 else(w,false)
def QJ:be:=⟨0,[],[],[],[]⟩
def iU (w:be) (e:Ev):be×Bool:=if w.time<99999∧(ei w e).2=true then((ei w e).1,true) else(w,false)
def jX (w:be) (e:Ev):be×Bool:=if iR w then iU w e else(QJ,false)
def sQ (site:Nat):Server:=⟨site,true,(List.range 3).map fun i=>if i%2=site%2 then⟨1,1⟩ else⟨0,0⟩,[],[],[],[]⟩
def ej:be:=⟨0,(List.range 4).map sQ,[],[],[[],[]]⟩
def gq (l:List Ev):be:=if 2000<l.length then ej else l.foldl (fun w e=>(jX w e).1) ej
theorem CG {v:aK} (h:et v=true):bT v.aS=true:=by
 simp only[et,Bool.and_eq_true] at h;exact h.1.2
def rr (l:List aK):Prop:=l.length≤1048576∧∀v∈l,v.aS.length≤1048576
def iV (m:aD):Prop:=m.aS.length≤1048576∧rr m.aq∧rr m.waits∧m.aH.length≤1048576
def oL (s:Server):Prop:=s.aR.length≤1048576∧rr s.aq∧rr s.waits∧s.aH.length≤1048576∧s.bq.length≤1048576
def ur (q:Call):Prop:=q.keys.length≤1048576∧q.ctx.length≤1048576∧q.ax.length≤1048576∧(∀y∈q.ax,y.bG.aS.length≤1048576)∧q.aM.length≤1048576
def uu (x:be):Prop:=(x.au.length≤1048576∧∀s∈x.au,oL s)∧(x.ao.length≤1048576∧∀m∈x.ao,iV m)∧(x.calls.length≤1048576∧∀q∈x.calls,ur q)∧x.seen.length≤1048576∧∀l∈x.seen,l.length≤1048576
theorem ru {l:List aK} (h:cg l=true):rr l:=⟨by have:=gn h;omega,fun v hv=>by have:=gm (CG (gA h v hv));omega⟩
theorem sR (l:List aK) (h:l.length≤1048576) (hd:∀y∈l,y.aS.length≤1048576):
 Fn Tryz.prog 143 [cv l] (cv l):=by
 refine Fn.intro 21 Tryz.func143 rfl Tryz.ntmps143 rfl (by kernel_rfl) (fun W I a hs=>?_)
 have hle:=hs.ew (t:=0) rfl
 refine az fun I a w hs=>?_
 refine nn<|sr ?_
 refine hs.cT rfl cM bt (by decide) fun b5 I a w hs=>?_
 refine ai fun I a w hs=>?_
 refine nn<|wp_block ?_
 refine St.lo (σ:=Nat×Value) (run 2 3 (run 14 6 [])) ⟨fun⟨k,v⟩=>[(4,AV.int k),(3,AV.val v)],fun⟨k,v⟩=>[Own.row v 100 7 ((l.take k).map aK.cells)],fun⟨k,v⟩=>k≤l.length⟩ (fun⟨k,v⟩=>l.length-k) (0,.slice (some ⟨b5,0,none⟩) 0 0) hs ?aN ?aO
 case aN=>exact Nat.zero_le _
 case aO=>
  rintro⟨k,v⟩ I a w al hs
  have hk:k≤l.length:=al
  dsimp only at hs
  refine aJ fun I a w hs=>?_
  refine nn ?_
  refine hs.cd (fun ae=>?_) fun ae=>?_
  ·try simp only[B] at ae
   refine aW fun I a w hs=>?_
   refine hs.o (.c1 (mN (ab l k) (hd _ (bx ae)))) fun hs=>?_
   refine hs.o (.li [(ab l k).cells] jD (.u .nil)) fun hs=>?_
   refine hs.append 0 rfl cM bt rfl .tt .r rfl (by simp;omega) fun nU a w hs=>?_
   rw[ck,←dL ae] at hs
   refine aJ fun I a w hs=>?_
   refine nn ?_
   exact hs.ag (k+1,nU) (ae)
  ·try simp only[B] at ae
   refine wp_exit<|aF<|aF<|aY ?_
   refine ai fun I a w hs=>?_
   refine nn<|wp_ret ?_
   obtain⟨I,hs⟩:=hs.fr 0 2
   refine hs.rt ?_
   exact congrArg (AV.rows 7) (by rw[List.take_of_length_le (by omega)])
set_option maxHeartbeats 4000000 in
theorem IE (m:aD) (h:iV m):
 Fn Tryz.prog 142 [m.av] (m.av):=by
 refine Fn.intro 22 Tryz.func142 rfl Tryz.ntmps142 rfl (by kernel_rfl) (fun W I a hs=>?_)
 obtain⟨h1,⟨h2,h3⟩,⟨h4,h5⟩,h6⟩:=h
 refine sr<|hs.box rfl .tt fun b1 I a w hs=>hs.alloc rfl cj dB fun b2 I a w hs=>nn<|sr ?_
 refine hs.cT rfl bA bk (by decide) fun b3 I a w hs=>?_
 refine ai fun I a w hs=>?_
 refine hs.append 2 rfl bA bk rfl .tt .r rfl (by simp;omega) fun v6 a w hs=>?_
 obtain⟨I,hs⟩:=hs.fr 2 6
 refine aJ fun I a w hs=>?_
 refine hs.o (.cl (sR m.aq h2 h3)) fun hs=>?_
 refine aJ fun I a w hs=>?_
 refine hs.o (.cl (sR m.waits h4 h5)) fun hs=>?_
 refine ai fun I a w hs=>?_
 refine nn<|sr ?_
 refine hs.cT rfl bA bk (by decide) fun wD I a w hs=>?_
 refine ai fun I a w hs=>?_
 refine hs.append 3 rfl bA bk rfl .tt .r rfl (by simp;omega) fun nU a w hs=>?_
 obtain⟨I,hs⟩:=hs.fr 3 19
 refine aJ fun I a w hs=>?_
 refine nn<|wp_ret ?_
 refine hs.ret rfl (.cons (.s 1 cj rfl rfl (by first|rfl|assumption)) aU.nil) ?_
 rfl
theorem CH (l:List aD) (h:l.length≤1048576) (hd:∀y∈l,iV y):
 Fn Tryz.prog 95 [bj l] (bj l):=by
 refine Fn.intro 21 Tryz.func95 rfl Tryz.ntmps95 rfl (by kernel_rfl) (fun W I a hs=>?_)
 have hle:=hs.ew (t:=0) rfl
 refine az fun I a w hs=>?_
 refine nn<|sr ?_
 refine hs.cT rfl dh cj (by decide) fun b5 I a w hs=>?_
 refine ai fun I a w hs=>?_
 refine nn<|wp_block ?_
 refine St.lo (σ:=Nat×Value) (run 2 3 (run 14 6 [])) ⟨fun⟨k,v⟩=>[(4,AV.int k),(3,AV.val v)],fun⟨k,v⟩=>[Own.row v 74 15 ((l.take k).map aD.cells)],fun⟨k,v⟩=>k≤l.length⟩ (fun⟨k,v⟩=>l.length-k) (0,.slice (some ⟨b5,0,none⟩) 0 0) hs ?aN ?aO
 case aN=>exact Nat.zero_le _
 case aO=>
  rintro⟨k,v⟩ I a w al hs
  have hk:k≤l.length:=al
  dsimp only at hs
  refine aJ fun I a w hs=>?_
  refine nn ?_
  refine hs.cd (fun ae=>?_) fun ae=>?_
  ·try simp only[B] at ae
   refine aW fun I a w hs=>?_
   refine hs.o (.c1 (IE (ab l k) (hd _ (bx ae)))) fun hs=>?_
   refine hs.o (.li [(ab l k).cells] fF (.u .nil)) fun hs=>?_
   refine hs.append 0 rfl dh cj rfl .tt .r rfl (by simp;omega) fun nU a w hs=>?_
   rw[ck,←dL ae] at hs
   refine aJ fun I a w hs=>?_
   refine nn ?_
   exact hs.ag (k+1,nU) (ae)
  ·try simp only[B] at ae
   refine wp_exit<|aF<|aF<|aY ?_
   refine ai fun I a w hs=>?_
   refine nn<|wp_ret ?_
   obtain⟨I,hs⟩:=hs.fr 0 2
   refine hs.rt ?_
   exact congrArg (AV.rows 15) (by rw[List.take_of_length_le (by omega)])
set_option maxHeartbeats 4000000 in
theorem wP (s:Server) (h:oL s):
 Fn Tryz.prog 96 [s.av] (s.av):=by
 refine Fn.intro 27 Tryz.func96 rfl Tryz.ntmps96 rfl (by kernel_rfl) (fun W I a hs=>?_)
 obtain⟨h1,⟨h2,h3⟩,⟨h4,h5⟩,h6,h7⟩:=h
 refine sr<|hs.box rfl .tt fun b1 I a w hs=>hs.alloc rfl ba df fun b2 I a w hs=>nn<|sr ?_
 refine hs.cT rfl ea dz (by decide) fun b3 I a w hs=>?_
 refine ai fun I a w hs=>?_
 refine hs.append 2 rfl ea dz rfl .tt .r rfl (by simp;omega) fun v6 a w hs=>?_
 obtain⟨I,hs⟩:=hs.fr 2 6
 refine aJ fun I a w hs=>?_
 refine hs.o (.cl (sR s.aq h2 h3)) fun hs=>?_
 refine aJ fun I a w hs=>?_
 refine hs.o (.cl (sR s.waits h4 h5)) fun hs=>?_
 refine ai fun I a w hs=>?_
 refine nn<|sr ?_
 refine hs.cT rfl bA bk (by decide) fun wD I a w hs=>?_
 refine ai fun I a w hs=>?_
 refine hs.append 3 rfl bA bk rfl .tt .r rfl (by simp;omega) fun nU a w hs=>?_
 obtain⟨I,hs⟩:=hs.fr 3 19
 refine ai fun I a w hs=>?_
 refine nn<|sr ?_
 refine hs.cT rfl bA bk (by decide) fun wQ I a w hs=>?_
 refine ai fun I a w hs=>?_
 refine hs.append 4 rfl bA bk rfl .tt .r rfl (by simp;omega) fun wR a w hs=>?_
 obtain⟨I,hs⟩:=hs.fr 4 24
 refine aJ fun I a w hs=>?_
 refine nn<|wp_ret ?_
 refine hs.ret rfl (.cons (.s 1 ba rfl rfl (by first|rfl|assumption)) aU.nil) ?_
 rfl
def Server.uv (s:Server) (v:Value):AV:=.agg [.int s.site,.bool s.up,.val v,cv s.aq,cv s.waits,bl s.aH,bl s.bq]
set_option maxHeartbeats 4000000 in
theorem QK (s:Server) (h:oL s):
 cL Tryz.prog 96 [s.av] [] (fun _:Value=>True) (fun v=>[Own.row v 86 2 (s.aR.map dt.cells)]) s.uv:=by
 refine cL.intro 27 Tryz.func96 rfl Tryz.ntmps96 rfl (by kernel_rfl) (fun W I a hs=>?_)
 obtain⟨h1,⟨h2,h3⟩,⟨h4,h5⟩,h6,h7⟩:=h
 refine sr<|hs.box rfl .tt fun b1 I a w hs=>hs.alloc rfl ba df fun b2 I a w hs=>nn<|sr ?_
 refine hs.cT rfl ea dz (by decide) fun b3 I a w hs=>?_
 refine ai fun I a w hs=>?_
 refine hs.append 2 rfl ea dz rfl .tt .r rfl (by simp;omega) fun v6 a w hs=>?_
 refine hs.o .fv fun hs=>?_
 try have ho6:=hs.dS 2 rfl
 refine aB fun I a w hs=>?_
 refine hs.o (.cl (sR s.aq h2 h3)) fun hs=>?_
 refine aJ fun I a w hs=>?_
 refine hs.o (.cl (sR s.waits h4 h5)) fun hs=>?_
 refine ai fun I a w hs=>?_
 refine nn<|sr ?_
 refine hs.cT rfl bA bk (by decide) fun wD I a w hs=>?_
 refine ai fun I a w hs=>?_
 refine hs.append 3 rfl bA bk rfl .tt .r rfl (by simp;omega) fun nU a w hs=>?_
 obtain⟨I,hs⟩:=hs.fr 3 19
 refine hs.o .fv fun hs=>?_
 try have QL:=hs.dS 3 rfl
 refine hs.s1 0 fun hs=>?_
 refine nn<|sr ?_
 refine hs.cT rfl bA bk (by decide) fun wQ I a w hs=>?_
 refine ai fun I a w hs=>?_
 refine hs.append 4 rfl bA bk rfl .tt .r rfl (by simp;omega) fun wR a w hs=>?_
 obtain⟨I,hs⟩:=hs.fr 4 24
 refine hs.o .fv fun hs=>?_
 try have QM:=hs.dS 4 rfl
 refine aB fun I a w hs=>?_
 refine nn<|wp_ret ?_
 exact hs.cP v6 [2] rfl (.cons (.s 1 ba rfl rfl (by first|rfl|assumption)) .nil) trivial rfl rfl
theorem y6 (l:List ar) (h:l.length≤1048576):
 jo Tryz.prog 91 [bl l] 97 3 (l.map ar.cells):=by
 refine jo.intro 5 Tryz.func91 rfl Tryz.ntmps91 rfl (by kernel_rfl) (fun W I a hs=>?_)
 refine ai fun I a w hs=>?_
 have hs:=hs.fi (sz:=3) 97
 refine hs.append 0 rfl bA bk rfl .c .r rfl (by simp;omega) fun v4 a w hs=>?_
 refine hs.s fun hs=>nn<|wp_ret ?_
 exact hs.vN (r:=2) 0 rfl rfl rfl rfl
def Server.QN (s:Server) (r:Value×Value×Value×Value×Value):AV:=.agg [.int s.site,.bool s.up,.val r.1,.val r.2.1,.val r.2.2.1,.val r.2.2.2.1,.val r.2.2.2.2]
def Server.IF (s:Server) (r:Value×Value×Value×Value×Value):List Own:=[Own.row r.1 86 2 (s.aR.map dt.cells),Own.row r.2.1 100 7 (s.aq.map aK.cells),Own.row r.2.2.1 100 7 (s.waits.map aK.cells),Own.row r.2.2.2.1 97 3 (s.aH.map ar.cells),Own.row r.2.2.2.2 97 3 (s.bq.map ar.cells)]
set_option maxHeartbeats 4000000 in
theorem wS (s:Server) (h:oL s):
 cL Tryz.prog 89 [s.av] [] (fun _=>True) s.IF s.QN:=by
 refine cL.intro 23 Tryz.func89 rfl Tryz.ntmps89 rfl (by kernel_rfl) (fun W I a hs=>?_)
 obtain⟨h1,⟨h2,h3⟩,⟨h4,h5⟩,h6,h7⟩:=h
 refine az fun I a w hs=>?_
 refine hs.alloc rfl ba df fun b2 I a w hs=>nn<|wp_seq ?_
 have hs:=hs.gN
 have hs:=hs.gN
 have hs:=hs.gN
 have hs:=hs.gN
 have hs:=hs.gN
 have hs:=hs.fi (sz:=2) 86
 refine hs.vT 20 _ [([],none),([],none),([],none),([],none),([],none),([],none),([6],some (6,[9])),([],none),([],none),([1],some (1,[12])),([],none),([],none),([2],some (2,[15])),([],none),([],none),([3],some (3,[18])),([],none),([],none),([4],some (4,[21])),([5],some (5,[22,9,12,15,18,21]))] rfl (by kernel_rfl) (by kernel_rfl) rfl ?_
 simp only[List.take_succ_cons,List.take_zero]
 refine fP ?_
 refine aV.Bp 6 rfl rfl ea dz rfl .c .r (by simp;omega) ?_
 refine cq ?_
 refine aV.mI 1 rfl rfl (sO s.aq h2 h3) (aw .r aP) ?_
 refine cq ?_
 refine aV.mI 2 rfl rfl (sO s.waits h4 h5) (aw .r aP) ?_
 refine cq ?_
 refine aV.mI 3 rfl rfl (y6 s.aH h6) (aw .r aP) ?_
 refine cq ?_
 refine aV.mI 4 rfl rfl (y6 s.bq h7) (aw .r aP) ?_
 refine aV.BK 5 [9,12,15,18,21] (fun a=>AV.agg [AV.int s.site,AV.bool s.up,AV.val (a.tmps.getD 9 undef),AV.val (a.tmps.getD 12 undef),AV.val (a.tmps.getD 15 undef),AV.val (a.tmps.getD 18 undef),AV.val (a.tmps.getD 21 undef)]) rfl rfl rfl rfl (fun a b h=>by simp only[List.forall_mem_cons] at h;simp only[h]) rfl (fun F a I he=>Ok.to (.bd df (.k (.k (aZ.c Pj rfl .tt (ss (t:=9) he) (aZ.c Pm rfl .tt (ss (t:=12) he) (aZ.c Po rfl .tt (ss (t:=15) he) (aZ.c Pq rfl .tt (ss (t:=18) he) (aZ.c Ps rfl .tt (ss (t:=21) he) aZ.nil))))))))) ?_
 refine .nil ?_
 intro I a w hs
 change St _ _ [Own.box b2 44 [AV.val (.int .i64 0),AV.val (.bool false),AV.rows 2 [],AV.rows 7 [],AV.rows 7 [],AV.rows 3 [],AV.rows 3 []],Own.row (a.tmps.getD 12 undef) 100 7 (s.aq.map aK.cells),Own.row (a.tmps.getD 15 undef) 100 7 (s.waits.map aK.cells),Own.row (a.tmps.getD 18 undef) 97 3 (s.aH.map ar.cells),Own.row (a.tmps.getD 21 undef) 97 3 (s.bq.map ar.cells),Own.is (AV.agg [AV.int s.site,AV.bool s.up,AV.val (a.tmps.getD 9 undef),AV.val (a.tmps.getD 12 undef),AV.val (a.tmps.getD 15 undef),AV.val (a.tmps.getD 18 undef),AV.val (a.tmps.getD 21 undef)]) (a.tmps.getD 22 undef),Own.row (a.tmps.getD 9 undef) 86 2 (s.aR.map dt.cells)] _ _ _ at hs
 have hs:=hs.BM (d:=22) 5 rfl
 generalize a.tmps.getD 9 undef=v9 at hs
 generalize a.tmps.getD 12 undef=QO at hs
 generalize a.tmps.getD 15 undef=QP at hs
 generalize a.tmps.getD 18 undef=H7 at hs
 generalize a.tmps.getD 21 undef=IG at hs
 show wpList _ _ _ _ _ _
 refine hs.sb 0 fun hs=>?_
 refine nn<|wp_ret ?_
 exact hs.cP (v9,QO,QP,H7,IG) [6,1,2,3,4] rfl (.cons (.s 0 ba rfl rfl (by first|rfl|assumption)) .nil) trivial rfl rfl
theorem qk (s:Server) (h:oL s):Fn Tryz.prog 89 [s.av] s.av:=(wS s h).frozen fun r c I a w _ hs=>by
 obtain⟨I,hs⟩:=hs.fa 0 0 2
 obtain⟨I,hs⟩:=hs.fa 1 0 3
 obtain⟨I,hs⟩:=hs.fa 2 0 4
 obtain⟨I,hs⟩:=hs.fa 3 0 5
 obtain⟨I,hs⟩:=hs.fa 4 0 6
 exact⟨_,_,_,hs⟩
set_option maxHeartbeats 4000000 in
theorem wT (m:aD) (h:iV m):
 Fn Tryz.prog 141 [m.av] (m.av):=by
 refine Fn.intro 20 Tryz.func141 rfl Tryz.ntmps141 rfl (by kernel_rfl) (fun W I a hs=>?_)
 obtain⟨h1,⟨h2,h3⟩,⟨h4,h5⟩,h6⟩:=h
 refine sr<|hs.box rfl .tt fun b1 I a w hs=>hs.alloc rfl cj dB fun b2 I a w hs=>nn<|wp_seq ?_
 refine hs.dp 13 (by kernel_rfl) (by kernel_rfl) (by kernel_rfl) ?_
 simp only[List.take_succ_cons,List.take_zero,List.drop_succ_cons,List.drop_zero]
 refine cq ?_
 refine .o (.cl (qe m.aS h1)) ?_
 refine cq ?_
 refine .o (cI (jo.fn (sO m.aq h2 h3)) (aw .r aP)) ?_
 refine cq ?_
 refine .o (cI (jo.fn (sO m.waits h4 h5)) (aw .r aP)) ?_
 refine cq ?_
 refine .o (.cl (qe m.aH h6)) ?_
 refine bz ?_
 refine .nil ?_
 intro I a w hs
 refine jR fun I a w hs=>?_
 refine nn<|wp_ret ?_
 refine hs.ret rfl (.cons (.s 1 cj rfl rfl (by first|rfl|assumption)) aU.nil) ?_
 rfl
theorem QQ (l:List aD) (h:l.length≤1048576) (hd:∀m∈l,iV m):
 jo Tryz.prog 88 [bj l] 74 15 (l.map aD.cells):=by
 refine jo.intro 19 Tryz.func88 rfl Tryz.ntmps88 rfl (by kernel_rfl) (fun W I a hs=>?_)
 have hs:=hs.fi (sz:=15) 74
 refine aW fun I a w hs=>?_
 refine nn<|wp_block ?_
 refine St.lo (σ:=Nat×Value) (3::(5::(run 10 8 []))) ⟨fun⟨k,v⟩=>[(8,AV.int k),(3,AV.val v)],fun⟨k,v⟩=>[Own.row v 74 15 ((l.take k).map aD.cells)],fun⟨k,v⟩=>k≤l.length⟩ (fun⟨k,v⟩=>l.length-k) (0,.slice none 0 0) hs ?aN ?aO
 case aN=>exact Nat.zero_le _
 case aO=>
  rintro⟨k,v⟩ I a w al hs
  have hk:k≤l.length:=al
  dsimp only at hs
  refine az fun I a w hs=>?_
  refine nn<|wp_seq ?_
  refine hs.cd (fun ae=>?_) fun ae=>?_
  ·try simp only[B] at ae
   refine ai fun I a w hs=>?_
   refine hs.alloc rfl cj dB fun b5 I a w hs=>?_
   refine hs.sb 1 fun hs=>?_
   obtain⟨I,hs⟩:=hs.fb 1 5
   refine ai fun I a w hs=>?_
   refine hs.o (.c1 (wT (ab l k) (hd _ (bx ae)))) fun hs=>?_
   refine hs.o (.li [(ab l k).cells] fF (.u .nil)) fun hs=>?_
   refine hs.append 0 rfl dh cj rfl .tt .r rfl (by simp;omega) fun wJ a w hs=>?_
   rw[ck,←dL ae] at hs
   refine aB fun I a w hs=>?_
   refine nn ?_
   have hs:=hs.drop 1
   exact hs.ag (k+1,wJ) (ae)
  ·try simp only[B] at ae
   refine wp_exit<|aF<|aF<|aY ?_
   refine ai fun I a w hs=>?_
   refine nn<|wp_ret ?_
   exact hs.vN (r:=2) 0 rfl rfl rfl (by rw[List.take_of_length_le (by omega)])
end Go.Proofs.YtoeioeimmfpefaaGreat
