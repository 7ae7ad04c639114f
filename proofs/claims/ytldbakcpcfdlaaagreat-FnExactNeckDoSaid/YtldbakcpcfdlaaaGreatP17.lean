/- Part 17: contracts of functions, plain facts. -/
import Derived.Test.YtldbakcpcfdlaaaGreatP13
import Derived.Test.YtldbakcpcfdlaaaGreatP14
import Derived.Test.YtldbakcpcfdlaaaGreatP15
import Derived.Test.YtldbakcpcfdlaaaGreatP16
set_option linter.all false
set_option maxRecDepth 100000
set_option maxHeartbeats 4000000
namespace Go.Proofs.YtldbakcpcfdlaaaGreat
open Go Go.RowKit Tryz
attribute [local irreducible] wpList Code.wp Ok
def Ag {l:List ao} {d:ao} (h:ck l=true) (hd:kh d=true):ck (gT l d)=true:=by
 simp only[kh,Bool.and_eq_true] at hd;exact LN h (by simpa[dp] using hd.1) hd.2
def xg {a b:List ao} (ha:ck a=true) (hb:∀d∈b,kh d=true):ck (ji a b)=true:=by
 unfold ji;induction b generalizing a with
 |nil=>exact ha
 |cons d r ih=>exact ih (Ag ha (hb d be)) (λe he=>hb e (by simp[he]))
def GQ (c:Call) (k:Nat):(!gJ c.keys (ae c.au k).key||(decide (0<(k:Int))&&decide ((ae c.au k).key<=(ae c.au ((k:Int)-1).toNat).key)))=!eU (λa=>gJ c.keys a.key) gm c.au k:=by
 rw[<-sO];have e:decide ((ae c.au k).key<=(ae c.au ((k:Int)-1).toNat).key)=!gm (ae c.au ((k:Int)-1).toNat) (ae c.au k):=by rw[Bool.eq_iff_iff];simp[gm]
 rw[e]
def NG {a:Answer} {s:cG} (h:eh a=true) (U:dB s=true):nM a s=dy a.bl.aw s:=by
 unfold eh at h;unfold nM;cases hy:a.yes
 .rw[hy] at h;simp[qF] at h;have:=tk U;rw[h,show dy tj.aw s=true from LQ this];rfl
 simp
def GR (a b d:cG):ei (ei a b) d=ei a (ei b d):=Gf λx=>by simp only[Cr,Bool.or_assoc]
def Xz (a b:cG):ei a b=ei b a:=Gf λx=>by simp only[Cr];rw[Bool.or_comm]
def pG {s:cG} (h:s=gO\/dB s=true):ei gO s=s:=by
 unfold ei;rcases h with rfl|h
 .simp
 rw[if_pos (LQ (tk h))]
def Ah {s:cG} (h:s=gO\/dB s=true):ei s gO=s:=by rw[Xz,pG h]
def sg:∀{l:List ao} {last:Int},dL last l=true->∀key,cB l key=gO\/dB (cB l key)=true
 |[],_,_,key=>Or.inl rfl
 |e::r,last,h,key=>by
  simp only[dL,Bool.and_eq_true] at h;rw[lA];split
  .exact Or.inr h.1.2
  exact sg h.2 key
def CQ:∀{l:List ao} {last:Int} {d:ao} (key:Int),dL last l=true->dB d.aw=true->cB (gT l d) key=if d.key=key then ei (cB l key) d.aw else cB l key
 |[],last,d,key,_,U=>by
  unfold gT;rw[lA];split
  .show d.aw=ei gO d.aw;rw[pG (Or.inr U)]
  rfl
 |e::r,last,d,key,h,U=>by
  have h':=h;simp only[dL,Bool.and_eq_true] at h;unfold gT;split
  .rename_i hk;rw[lA,lA];have e1:(if dy e.aw d.aw=true then d else e).key=e.key:=by split<;>simp[hk]
   rw[e1,hk];split
   .unfold ei;split<;>rfl
   rfl
  rename_i hk;split
  .rename_i bW;rw[lA];split
   .rename_i jf;have:cB (e::r) key=gO:=by
     have hd:dL d.key (e::r)=true:=by
      simp only[dL,Bool.and_eq_true];refine⟨⟨?_,h.1.2⟩,h.2⟩;have:=h.1.1;simp[aS] at this⊢;omega
     exact w9 hd om
    rw[this,pG (Or.inr U)]
   rfl
  rename_i bW;rw[lA,lA,CQ key h.2 U];by_cases xh:e.key=key
  .rw[if_pos xh,if_pos xh,if_neg om]
  rw[if_neg xh,if_neg xh]
def NH {a b:cG} (ha:rP a) (hb:rP b):rP (ei a b):=by unfold ei;split<;>assumption
def Ai {a:Answer} (h:eh a=true) (hy:a.yes=true):kh a.bl.bD=true/\a.bl.bD=⟨a.key,a.bl.aw⟩:=by
 have h1:=tl h hy;have h2:=kT h1.1;refine⟨by simp[kh,aJ.bD,h2.1,h2.2.1],?_⟩;rw[<-h1.2];rfl
def qJ:List Answer->Int->cG
 |[],_=>gO
 |a::r,key=>ei (cB a.bl.aK key) (qJ r key)
def sh:List Answer->Int->cG
 |[],_=>gO
 |a::r,key=>ei (if a.yes=true/\a.key=key then a.bl.aw else gO) (sh r key)
def GS:∀{l:List Answer},(∀a∈l,eh a=true)->∀key,rP (qJ l key)
 |[],_,_=>Or.inl rfl
 |a::r,h,key=>NH (sg (r4 (h a be)) key) (GS (λb hb=>h b (by simp[hb])) key)
def Aj:∀{l:List Answer},(∀a∈l,eh a=true)->∀key,rP (sh l key)
 |[],_,_=>Or.inl rfl
 |a::r,h,key=>by
  refine NH ?_ (Aj (l:=r) (λb hb=>h b (by simp[hb])) key);split
  .rename_i hy;exact Or.inr (kT (tl (h a be) hy.1).1).2.1
  exact Or.inl rfl
def CR:∀{l:List Answer} {acc:List ao},ck acc=true->(∀a∈l,eh a=true)->ck (l.foldl qB acc)=true/\∀key,cB (l.foldl qB acc) key=ei (cB acc key) (sh l key)
 |[],acc,ha,_=>⟨ha,λkey=>by show cB acc key=ei (cB acc key) gO;rw[Ah (sg ha key)]⟩
 |a::r,acc,ha,h=>by
  have hg:=h a be;cases hy:a.yes
  .have e:qB acc a=acc:=by unfold qB;rw[hy];simp
   have h2:=CR (l:=r) ha λb hb=>h b (by simp[hb]);rw[List.foldl_cons,e];refine⟨h2.1,λkey=>?_⟩;rw[h2.2 key];show _=ei _ (ei (if a.yes=true/\a.key=key then a.bl.aw else gO) (sh r key));rw[if_neg (by rw[hy];simp),pG (Aj (l:=r) (λb hb=>h b (by simp[hb])) key)]
  have hd:=Ai hg hy;have e:qB acc a=gT acc ⟨a.key,a.bl.aw⟩:=by unfold qB;rw[hy];simp
  have bJ:dB a.bl.aw=true:=(kT (tl hg hy).1).2.1;have h2:=CR (l:=r) (Ag ha (hd.2▸hd.1)) λb hb=>h b (by simp[hb]);rw[List.foldl_cons,e];refine⟨h2.1,λkey=>?_⟩;rw[h2.2 key,CQ key ha bJ];show _=ei _ (ei (if a.yes=true/\a.key=key then a.bl.aw else gO) (sh r key));by_cases hk:a.key=key
  .rw[if_pos hk,if_pos ⟨hy,hk⟩,GR]
  rw[if_neg hk,if_neg λh=>hk h.2,pG (Aj (l:=r) (λb hb=>h b (by simp[hb])) key)]
def lQ (s:Server) (d:ao):az:={cg with kind:=7,bj:=s.site,to:=fH s.site,key:=d.key,aw:=d.aw}
def asks (q:Call):List az:=
 if q.kind=1 then[{cg with kind:=1,key:=ae q.keys 0,val:=q.val,aK:=q.ctx}]
 else(q.keys.filter λk=>decide (cQ q k<0)).map (λk=>{cg with kind:=3,key:=k})++q.aO.map λd=>{cg with kind:=3,key:=d.key,aw:=d.aw}
def jF (q:Call):List az:=if hX q then((asks q).map (jB q)).flatten else[]
def lB (q:Call):List ao:=(q.au.map (nP (fw q))).flatten
def oJ (q:Call) (a:Answer) (time:Int):Call:=
 let x:={q with au:=dF q.au a}
 if x.au.length<x.keys.length then x else mY {x with aO:=x.aO++lB x} time
def jW (q:Call) (m:az) (time:Int):Call:=
 if m.kind=4/\(m.yes=true->m.ar.length=1/\(ae m.ar 0).key=m.key) then
  if cQ q m.key<0 then(if eH m.aw then oJ q (dZ m) time else q)
  else if m.yes then ov q (dZ m) time else q
 else q
def ej (q:Call) (m:az) (time:Int):Call:=
 if bY m&&(m.to==10+q.aB)&&(m.call==q.num)&&gJ q.keys m.key&&hX q&&decide (q.bw<time) then
  if q.kind=1 then(if m.kind=2/\dB m.aw=true then{q with aw:=m.aw,end_:=time} else q)
  else jW q m time
 else q
def pH (w:aM) (m:az):aM:=
 let i:=cI w.calls (m.to-10)
 if i<0 then w else
  let q:=ej (ae w.calls i.toNat) m w.time
  let w1:={w with calls:=w.calls.set i.toNat q}
  if 0<q.end_ then{w1 with seen:=w.seen.set (m.to-10).toNat (jT q)} else w1
def XA (u v:aJ):
 Fn prog 62 [u.av,v.av] (AV.bool (qF u v)):=by
 refine Fn.go 65 func62 ntmps62 (λW I a U=>?_);have lens:u.aK.length<=9223372036854775807/\v.aK.length<=9223372036854775807:=by
  obtain⟨cs,_,hc⟩:=U.env 0 _ rfl;obtain⟨u1,_,h1,_⟩:=hc.get (i:=6) rfl;obtain⟨Ue,_,ng⟩:=U.env 1 _ rfl;obtain⟨u2,_,h2,_⟩:=ng.get (i:=6) rfl;exact⟨yy h1,yy h2⟩
 refine Br λI a w U=>?_;refine U.q .F (A3 [_,_] [_,_] qh rfl rfl .ag .ag) λU=>?_;refine Sh λI a w U=>?_;refine U.cd (λab=>?_) λab=>?_
 .replace ab:tq u v=false:=by unfold tq;rw[ab];rfl
  refine aW ?_;exact bT (by rw[Gy,ab];rfl)
 replace ab:tq u v=true:=by unfold tq;rw[ab];rfl
 refine aU λI a w U=>?_;refine St.lo (σ:=Nat) (run 3 4 (run 13 52 [])) ⟨λk=>[(52,AV.int k)],λk=>[],λk=>k<=u.aK.length/\∀i,i<k->(Ct u v) i=true⟩ (λk=>u.aK.length-k) 0 U ?aD ?bh;case aD=>exact⟨Nat.zero_le _,λi hi=>by omega⟩
 rintro k I a w aj U;obtain⟨qD,aT⟩:=aj;refine al λI a w U=>?_;refine cz (λah=>?_) λah=>?_
 .refine aV λI a w U=>?_;refine U.alloc rfl cM fE λb6 I a w U=>?_;refine ax λI a w U=>?_;obtain⟨I,U⟩:=U.fb 0 6;refine U.dk ?_;refine ef ?_;refine .o ((by first|exact fT dw cM .tt .tt (λ_=>by have:=Gz ab;omega)|exact iO dw cM .tt .tt (λ_=>by have:=Gz ab;omega)|exact iZ dw cM .tt .tt (λ_=>by have:=Gz ab;omega))) ?_;refine br ?_;refine .o (A3 [_,_,_] [_,_,_] yU rfl rfl .tt .tt)<|.nil ?_;intro I a w U;refine ba ?_;refine U.cd (λai=>?_) λai=>?_
  .rw[Mo] at ai;replace ai:=nt ai;refine aW ?_;exact bT (by rw[Gy,fI (f:=Ct u v) ah ai];simp)
  rw[Mo] at ai;replace ai:=nf ai;refine ax λI a w U=>?_;have U:=U.drop 0;exact U.ag (k+1) (⟨by omega,gf aT ai⟩)
 refine zt ?_;refine aW ?_;exact bT (by rw[Gy,ab,fD aT om];rfl)
def NI (m:az) (h:iV m):
 Fn prog 244 [m.av] (m.av):=by
 refine Fn.go 22 func244 ntmps244 (λW I a U=>?_);obtain⟨h1,⟨h2,h3⟩,⟨h4,h5⟩,h6⟩:=h;refine sr<|U.box rfl .tt λb1 I a w U=>U.alloc rfl cH dN λb2 I a w U=>?_;refine zt ?_;refine U.l0 λb3 I a w U=>?_;refine aA λI a w U=>?_;refine U.ap 2 λv6 a w U=>?_;obtain⟨I,U⟩:=U.fr 2 6;refine aR λI a w U=>?_;refine U.o (.cl (uW m.ar h2 h3)) λU=>?_;refine aR λI a w U=>?_;refine U.o (.cl (uW m.waits h4 h5)) λU=>?_;refine ax λI a w U=>?_;refine U.l0 λzS I a w U=>?_;refine aA λI a w U=>?_;refine U.ap 3 λpB a w U=>?_;obtain⟨I,U⟩:=U.fr 3 19;refine aU λI a w U=>?_;refine U.ret rfl (.cons (.sx 1) aZ.nil) ?_;rfl
def GU (l:List az) (h:l.length<=1048576) (hd:∀y∈l,iV y):
 Fn prog 164 [dW l] (dW l):=by
 refine Fn.go 21 func164 ntmps164 (λW I a U=>?_);have hle:=U.dD (t:=0) rfl;refine al λI a w U=>?_;refine U.l0 λb5 I a w U=>?_;refine ax λI a w U=>?_;refine St.lo (σ:=Nat×Value) (run 2 3 (run 14 6 [])) ⟨λ⟨k,v⟩=>[(4,AV.int k),(3,AV.val v)],λ⟨k,v⟩=>[Own.row v 108 15 ((l.take k).map az.cells)],λ⟨k,v⟩=>k<=l.length⟩ (λ⟨k,v⟩=>l.length-k) (0,.slice (some ⟨b5,0,none⟩) 0 0) U ?aD ?bh;case aD=>exact Nat.zero_le _
 rintro⟨k,v⟩ I a w aj U;have hk:k<=l.length:=aj;dsimp only at U;refine aU λI a w U=>?_;refine cz (λab=>?_) λab=>?_
 .refine bV λI a w U=>?_;refine U.o (.c1 (NI (ae l k) (hd _ (bK ab)))) λU=>?_;refine U.o (.li [(ae l k).cells] gj (.u .nil)) λU=>?_;refine U.ap 0 λpB a w U=>?_;rw[cA,<-ep ab] at U;refine aU λI a w U=>?_;exact U.ag (k+1,pB) (ab)
 refine zt ?_;refine ax λI a w U=>?_;obtain⟨I,U⟩:=U.fr 0 2;refine U.rt ?_;exact congrArg (AV.rows 15) (by rw[List.take_of_length_le om])
def XB (s:Server) (key aB call:Int):
 Fn prog 333 [s.av,AV.int key,AV.int aB,AV.int call] (AV.c8 [((kV s key aB call).getD default).av,AV.bool (kV s key aB call).isSome]):=by
 refine Fn.go 52 func333 ntmps333 (λW I a U=>?_);have lens:s.aQ.length<=9223372036854775807/\s.ar.length<=9223372036854775807/\s.waits.length<=9223372036854775807/\s.aE.length<=9223372036854775807/\s.bq.length<=9223372036854775807:=⟨U.ln 0 2,U.ln 0 3,U.ln 0 4,U.ln 0 5,U.ln 0 6⟩;refine aX λI a w U=>?_;refine U.alloc rfl bI dY λb8 I a w U=>?_;refine ax λI a w U=>?_;refine St.lo (σ:=Nat) (run 42 9 []) ⟨λk=>[(10,AV.int k)],λk=>[Own.box b8 54 [AV.val (.int .i64 0),AV.val (.int .i64 0),AV.val (.int .i64 0),AV.val (.int .i64 0),AV.val (.int .i64 0),AV.val (.int .i64 0),AV.rows 3 []]],λk=>k<=s.ar.length/\∀i,i<k->(pF s key aB call) (ae s.ar i)=false⟩ (λk=>s.ar.length-k) 0 U ?aD ?bh;case aD=>exact⟨Nat.zero_le _,λi hi=>by omega⟩
 rintro k I a w aj U;obtain⟨hk,aT⟩:=aj;refine bP λI a w U=>?_;refine cz (λab=>?_) λab=>?_
 .refine bV λI a w U=>?_;refine U.alloc rfl bI dY λoF I a w U=>?_;refine al λI a w U=>?_;obtain⟨I,U⟩:=U.fb 1 11;refine U.dk ?_;refine n5 ?_;refine ef ?_;refine .q .T (.cl (pq ..)) ?_;refine cy ?_;refine .q .T (.cl (pq ..)) ?_;refine cy ?_;refine .nil ?_;intro I a w U;refine ba ?_;refine U.cd (λah=>?_) λah=>?_
  .change(pF s key aB call) (ae s.ar k)=true at ah;refine aI λI a w U=>?_;refine U.ret rfl (.cons (.sx 0) (.cons (.t rfl) aZ.nil)) ?_;exact(by rw[show kV s key aB call=some (ae s.ar k) from Ms ab aT ah];rfl)
  change(pF s key aB call) (ae s.ar k)=false at ah;refine aI λI a w U=>?_;have U:=U.drop 1;exact U.ag (k+1) (⟨ab,λi h1=>by rcases Nat.lt_succ_iff_lt_or_eq.1 h1 with h|h;exact aT i h;rw[h];exact ah⟩)
 refine zt ?_;refine U.o (.bd dY bf.nil) λU=>?_;refine ax λI a w U=>?_;refine U.ret rfl (.cons (.sx 0) (.cons (.t rfl) aZ.nil)) ?_;exact(by rw[show kV s key aB call=none from L1 om aT];rfl)
def NJ {s:Server} {m:az} (h:bE s) (hm:bY m=true) {st:cG} (U:dB st=true):bY (mh s m st)=true:=by
 have p:=oE hm;exact sd ⟨by simp[mh],by simp[mh]⟩ (oH h.site) p.2.1 p.2.2.2.1 p.2.2.2.2.1 (Ae U) ⟨by simp[mh,cg],by simp[mh,cg]⟩ qI ⟨by simp[mh,cg],by simp[mh,cg]⟩ ⟨by simp[mh,cg],by simp[mh,cg]⟩ oI oI ve
def NK {s:Server} {m:az} (h:bE s) (hm:bY m=true) {o:Option aJ} (ho:∀v,o=some v->fi v=true):bY (mi s m o)=true:=by
 have p:=oE hm;exact sd ⟨by simp[mi],by simp[mi]⟩ (oH h.site) p.2.1 p.2.2.2.1 p.2.2.2.2.1 p.2.2.2.2.2.1 ⟨by simp[mi,cg],by simp[mi,cg]⟩ qI ⟨by simp[mi,cg],by simp[mi,cg]⟩ ⟨by simp[mi,cg],by simp[mi,cg]⟩ (Nw ho) oI ve
def NL {s:Server} {m:az} (h:bE s) (hm:bY m=true) {v:aJ} (hv:fi v=true):bY (mj s m v)=true:=by
 have p:=oE hm;have q:=kT hv;exact sd ⟨by simp[mj],by simp[mj]⟩ (oH h.site) p.2.1 ⟨by simp[mj,cg],by simp[mj,cg]⟩ q.1 (Ae q.2.1) ⟨by simp[mj,cg],by simp[mj,cg]⟩ qI ⟨by simp[mj,cg],by simp[mj,cg]⟩ ⟨by simp[mj,cg],by simp[mj,cg]⟩ oI oI ve
def NM {s:Server} {m:az} (h:bE s) (hm:bY m=true):bY (nJ s m)=true:=by
 have p:=oE hm;exact sd ⟨by simp[nJ],by simp[nJ]⟩ (oH h.site) p.2.1 ⟨by simp[nJ,cg],by simp[nJ,cg]⟩ GN Af ⟨by simp[nJ,cg],by simp[nJ,cg]⟩ qI p.2.2.2.2.2.2.2.2.1 p.2.2.2.2.2.2.2.2.2.1 oI oI ve
def XC {q:Call} {d:ao} (h:d∈lB q):∃a∈q.au,d=⟨a.key,cB (fw q) a.key⟩/\dy a.bl.aw d.aw=true:=by
 unfold lB at h;obtain⟨ds,h1,h2⟩:=List.mem_flatten.1 h;obtain⟨a,ha,rfl⟩:=List.mem_map.1 h1;unfold nP at h2;split at h2
 .rename_i hl;obtain rfl:d=_:=by simpa using h2
  exact⟨a,ha,rfl,hl⟩
 simp at h2
def GV {q:Call} {m:az} (hm:bY m=true) (hv:m.yes=true->m.ar.length=1/\(ae m.ar 0).key=m.key):eh (dZ m)=true:=by
 unfold eh dZ;dsimp only;cases hy:m.yes
 .simp[qF]
 obtain⟨h1,h2⟩:=hv hy;have:=g7 (nK hm).1 _ (bK (l:=m.ar) (k:=0) om);simp[this,h2]
def vg {l:List Call} {aB:Int} (h:0<=cI l aB):(cI l aB).toNat<l.length/\(ae l (cI l aB).toNat).aB=aB/\hX (ae l (cI l aB).toNat)=true:=by
 unfold cI dK at*;split at h
 .rename_i k hk;obtain⟨h1,h2,_⟩:=List.findIdx?_eq_some_iff_getElem.1 hk;have e:l[k]=ae l k:=by simp[ae,h1]
  rw[e] at h2;simp only[tn,Bool.and_eq_true,beq_iff_eq] at h2;refine⟨by simpa using h1,by simpa using h2.1.1,?_⟩;unfold hX;simp[h2.1.2,h2.2]
 omega
def NN (s:Server) (m:az):(decide (80<((eJ s m.slot).ar.length:Int)+m.ar.length)||decide (80<((eJ s m.slot).waits.length:Int)+m.waits.length)||decide (80<((eJ s m.slot).aE.length:Int)+m.aE.length))=!r6 s m:=by
 have e:∀a b:Nat,decide (80<(a:Int)+b)=!decide (a+b<=80):=λa b=>by rw[Bool.eq_iff_iff];simp;omega
 unfold r6;rw[e,e,e];simp
set_option maxHeartbeats 8000000 in
def xi (s:Server) (aj:eI s) (ho:s.aE.length<=80):
 Fn prog 350 [s.av] ((g9 s).av):=by
 refine Fn.go 40 func350 ntmps350 (λW I a U=>?_);have pY:=aj;have hZ:=aj.small om;refine aX λI a w U=>?_;refine U.alloc rfl bL di λb2 I a w U=>?_;refine aX λI a w U=>?_;refine U.dX [] (zu s hZ) (an .tt aH) rfl bA rfl λ⟨vS,vV,vW,vO,vK⟩ I a w NO U=>?_;refine U.alloc rfl bL di λb3 I a w U=>?_;refine U.sb 6 λU=>?_;refine wpList_nil ?_;obtain⟨I,U⟩:=U.fu 1 2 6;obtain⟨I,U⟩:=U.fu 2 3 6;obtain⟨I,U⟩:=U.fu 4 5 6;refine ba ?_;refine St.cut (σ:=Server×Value) (4::(run 26 7 [])) ⟨λ⟨x,u⟩=>[],λ⟨x,u⟩=>[Own.box b2 95 [AV.val (.int .i64 0),AV.val (.bool false),AV.rows 2 [],AV.rows 7 [],AV.rows 7 [],AV.rows 3 [],AV.rows 3 []],Own.gone,Own.gone,Own.row u 54 7 (x.waits.map aJ.cells),Own.gone,Own.row vK 125 3 (x.bq.map ao.cells),Own.box b3 95 [AV.int x.site,AV.bool x.up,l4 x.aQ,cm x.ar,AV.val u,bm x.aE,AV.val vK]],λ⟨x,u⟩=>eI x/\ir x=ir s/\x.aE=s.aE/\fo x<0⟩ U ?GW ?XD;case GW=>
  refine wp_block ?_;refine St.lo (σ:=Server×Value) (4::(run 26 7 [])) ⟨λ⟨x,u⟩=>[],λ⟨x,u⟩=>[Own.box b2 95 [AV.val (.int .i64 0),AV.val (.bool false),AV.rows 2 [],AV.rows 7 [],AV.rows 7 [],AV.rows 3 [],AV.rows 3 []],Own.gone,Own.gone,Own.row u 54 7 (x.waits.map aJ.cells),Own.gone,Own.row vK 125 3 (x.bq.map ao.cells),Own.box b3 95 [AV.int x.site,AV.bool x.up,l4 x.aQ,cm x.ar,AV.val u,bm x.aE,AV.val vK]],λ⟨x,u⟩=>eI x/\ir x=ir s/\x.aE=s.aE⟩ (λ⟨x,u⟩=>x.waits.length) (s,vW) U ?aD ?bh;case aD=>exact⟨aj,rfl,rfl⟩
  rintro⟨x,u⟩ I a w aj U;obtain⟨hx,l3,tC⟩:=aj;dsimp only at U;have qK:=tf hx.ar;have XE:=tf hx.waits;have nY:=gV hx.ar;have ki:=gV hx.waits;refine aU λI a w U=>?_;refine cz (λab=>?_) λab=>?_
  .refine aA λI a w U=>?_;refine U.o (nj (an .tt aH)) λU=>?_;refine U.o (nx (xs:=[AV.val u,AV.fn 362 [AV.val (.pointer (some ⟨b3,0,none⟩))]]) (gi:=[cm x.waits,AV.fn 362 [AV.ptr x.cells]]) (FU x.waits (lz x) _ (λv hv=>Fn.val (UZ x v hx.aQ (pr (g7 hx.waits v hv))))) (an .tt (an .tt aH)) (λc I a w U=>by obtain⟨I,U,hf⟩:=U.sK 3 rfl;have U:=U.lX (q:=4) 6 rfl rfl hf;have U:=U.vP (t:=0) rfl hf;obtain⟨I,U⟩:=U.fu 5 6 6;obtain⟨I,U⟩:=U.fc 6 1 0;exact⟨_,_,_,U,rfl,rfl,trivial⟩)) λU=>?_;refine al λI a w U=>?_;have hid:fo x=dK (lz x) x.waits:=WC om;refine ax λI a w U=>?_;refine cz (λah=>?_) λah=>?_
   .refine zt ?_;exact U.me (x,u) (by first|exact⟨hx,l3,tC,NB om⟩|exact⟨hx,l3,tC,by omega⟩)
   have ux:0<=fo x:=by omega
   obtain⟨vU,od,mH⟩:=zn ux;have NP:=hx.wO ux;have nR:=Ml ux;obtain⟨n,hn⟩:∃n:Nat,(fo x).toNat=n:=⟨_,rfl⟩;rw[hn] at vU NP nR mH;rw[show dK (lz x) x.waits=(n:Int) by omega] at U;refine zt ?_;obtain⟨bu,cu,rfl⟩:=U.iS 3 rfl jr;refine U.dt 9 ?_;simp only[TD];refine fQ ?_;refine .o (gv du bI .tt .tt (λ_=>by rw[List.length_map];omega)) ?_;refine .o (p6 3 bI .tt rfl (λ_=>by exact fq vU) rfl) ?_;refine .o (bx (FZ x.ar (ae x.waits n) om (λy hy=>by have:=qK y hy;omega) (by have:=XE _ (bK vU);omega)) (an .r (an (.t rfl) aH))) ?_;refine br ?_;refine .nil ?_;intro I a w U;refine U.s1 6 λU=>?_;refine bV λI a w U=>?_;refine U.dX [3] (UR _ (x.waits.map aJ.cells) n (by rw[List.length_map];exact vU) jr (λr hr=>by obtain⟨y,_,rfl⟩:=List.mem_map.1 hr;rfl)) (an .r (an .tt (an .tt aH))) rfl bA rfl λu2 I a w ahe U=>?_;rw[<-List.map_take,<-List.map_drop,<-List.map_append] at U;refine U.o .fv λU=>?_;try have XF:=U.cU 3 rfl
   refine U.s1 6 λU=>?_;refine zt ?_;exact U.ag (mT x n,u2) (⟨NP,nR.symm.trans l3,tC⟩) (hμ:=by show(mT x n).waits.length<x.waits.length;rw[FY vU];omega)
  refine zt ?_;exact U.me (x,u) (by first|exact⟨hx,l3,tC,NB om⟩|exact⟨hx,l3,tC,by omega⟩)
 rintro⟨x,u⟩ I a w aj U;obtain⟨hx,l3,tC,CS⟩:=aj;dsimp only at U;have nR:=U2 l3 CS;have XG:po {x with bq:=x.bq.filter λd=>!(!g8 x d)}:=by rw[<-nR];exact(pY.settle).small (by rw[(Ad s).2.2.2];omega)
 refine wp_seq ?_;obtain⟨I,U⟩:=U.fu 3 4 6;refine aA λI a w U=>?_;refine U.o (nj (an .tt aH)) λU=>?_;refine U.dX [5,6] (Gd vK x.bq (λd=>!g8 x d) _ (Own.box b3 95 [AV.int x.site,AV.bool x.up,l4 x.aQ,cm x.ar,cm x.waits,bm x.aE,AV.val vK]) (by have:=hx.bq;omega) (λd hd=>er.val (U1 b3 x (AV.val vK) d))) (an .r (an .tt aH)) rfl bA rfl λNQ I a w ahf U=>?_;refine U.o .fv λU=>?_;try have ahg:=U.cU 5 rfl
 refine U.s1 6 λU=>?_;refine nn<|wp_seq ?_;obtain⟨I,U⟩:=U.fu 5 6 6;refine aX λI a w U=>?_;refine U.o (.c1 (rR {x with bq:=x.bq.filter λd=>!(!g8 x d)} XG)) λU=>?_;refine al λI a w U=>?_;refine U.ret rfl (.cons (.sx 0) aZ.nil) ?_;exact(by rw[nR];rfl)
def NR (s:Server) (m:az) (x:Bool):((((!decide ((eJ s m.slot).ar.length+m.ar.length<=80))||!decide ((eJ s m.slot).waits.length+m.waits.length<=80))||decide (80<((eJ s m.slot).aE.length:Int)+m.aE.length))||!x)=!(r6 s m&&x):=by
 have e:decide (80<((eJ s m.slot).aE.length:Int)+m.aE.length)=!decide ((eJ s m.slot).aE.length+m.aE.length<=80):=by rw[Bool.eq_iff_iff];simp;omega
 unfold r6;rw[e];simp
def XH {s:Server} {t:Int} {v:aJ} (h:v.aK.length<=1048576):iV {cg with kind:=5,bj:=s.site,to:=t,ar:=[v]}:=⟨Nat.zero_le _,⟨by simp,λx hx=>by obtain rfl:=List.mem_singleton.1 hx;exact h⟩,⟨Nat.zero_le _,λ_ h=>by cases h⟩,Nat.zero_le _⟩
def XI (site:Nat) (h4:site<4):
 Fn prog 153 [AV.int (site:Int)] ((qA site).av):=by
 refine Fn.go 33 func153 ntmps153 (λW I a U=>?_);have uv:de (site:Int)=true:=mu.2 om;refine sr<|U.alloc rfl bL di λb2 I a w U=>?_;refine aX λI a w U=>?_;refine U.o (.c1 (qH ..)) λU=>?_;refine al λI a w U=>?_;refine U.cd (λab=>?_) λab=>?_
 .exfalso;rw[uv] at ab;cases ab;skip
 refine aX λI a w U=>?_;refine U.o (.bd wj (.k (.k bf.nil))) λU=>?_;refine U.alloc rfl bL wj λb3 I a w U=>?_;refine al λI a w U=>?_;have U:=U.en (sz:=2) 97;refine al λI a w U=>?_;refine St.lo (σ:=Nat×Value) (4::(run 21 11 [])) ⟨λ⟨k,v⟩=>[(11,AV.int k)],λ⟨k,v⟩=>[Own.box b2 95 [AV.val (.int .i64 0),AV.val (.bool false),AV.rows 2 [],AV.rows 7 [],AV.rows 7 [],AV.rows 3 [],AV.rows 3 []],Own.box b3 95 [AV.int (site:Int),AV.bool true,AV.val v,AV.val (.slice none 0 0),AV.val (.slice none 0 0),AV.val (.slice none 0 0),AV.val (.slice none 0 0)],Own.row v 97 2 ((pC site k).map ct.cells)],λ⟨k,v⟩=>k<=3⟩ (λ⟨k,v⟩=>3-k) (0,.slice none 0 0) U ?aD ?bh;case aD=>exact Nat.zero_le _
 rintro⟨k,v⟩ I a w aj U;have hk:k<=3:=aj;dsimp only at U;refine al λI a w U=>?_;refine cz (λah=>?_) λah=>?_
 .refine aV λI a w U=>?_;refine U.o (lZ .tt .c (λ_=>by omega)) λU=>?_;refine U.m λU=>?_;refine U.o (lZ .tt .c (λ_=>by omega)) λU=>?_;refine al λI a w U=>?_;refine cz (λai=>?_) λai=>?_
  .refine aA λI a w U=>?_;refine U.o (.bd kD (.k (.k bf.nil))) λU=>?_;refine U.o (.li [ct.cells ⟨1,1⟩] wm (.u .nil)) λU=>?_;refine U.append 2 rfl eM dP rfl .tt .r rfl (by rw[List.length_map,w6];simp;omega) λwL a w U=>?_;refine U.o .fv λU=>?_;try have XJ:=U.cU 2 rfl
   refine aI λI a w U=>?_;rw[cA,Gn (by simpa using ai)] at U;exact U.ag (k+1,wL) (by show k+1<=3;omega)
  refine aA λI a w U=>?_;refine U.o (.bd kD bf.nil) λU=>?_;refine U.o (.li [ct.cells ⟨0,0⟩] wm (.u .nil)) λU=>?_;refine U.append 2 rfl eM dP rfl .tt .r rfl (by rw[List.length_map,w6];simp;omega) λtD a w U=>?_;refine U.o .fv λU=>?_;try have NS:=U.cU 2 rfl
  refine aI λI a w U=>?_;rw[cA,Gp (by simpa using ai)] at U;exact U.ag (k+1,tD) (by show k+1<=3;omega)
 refine wp_exit<|bU<|bU<|eb<|ba<|wp_seq ?_;obtain⟨I,U⟩:=U.fu 2 2 1;have U:=U.lX (q:=3) 1 rfl rfl (eQ 7 _);have U:=U.lX (q:=4) 1 rfl rfl (eQ 7 _);have U:=U.lX (q:=5) 1 rfl rfl (eQ 3 _);have U:=U.lX (q:=6) 1 rfl rfl (eQ 3 _);refine ax λI a w U=>?_;refine U.ret rfl (.cons (.sx 0) aZ.nil) ?_;have eZ:k=3:=by omega
 subst eZ;rfl
def XK (q:Call) (h:uO q):
 bG prog 166 [q.av] [] (λ_:Value×Value=>True) (λu=>[Own.row u.1 56 9 (q.au.map Answer.cells),Own.row u.2 125 3 (q.aO.map ao.cells)]) (λu=>q.wY u.1 u.2):=by
 refine bG.intro 45 func166 rfl ntmps166 rfl aq (λW I a U=>?_);obtain⟨h1,h2,h4,h5,h3⟩:=h;refine sr<|U.box rfl .tt λb1 I a w U=>U.alloc rfl dm g0 λb2 I a w U=>?_;refine zt ?_;refine U.l0 λb6 I a w U=>?_;refine aA λI a w U=>?_;refine U.ap 2 λv9 a w U=>?_;obtain⟨I,U⟩:=U.fr 2 9;refine U.o .fv λU=>?_;try have NU:=U.cU 2 rfl
 refine al λI a w U=>?_;refine U.l0 λoF I a w U=>?_;refine aA λI a w U=>?_;refine U.ap 3 λgX a w U=>?_;obtain⟨I,U⟩:=U.fr 3 14;refine U.o .fv λU=>?_;try have Ak:=U.cU 3 rfl
 refine al λI a w U=>?_;refine U.l0 λzS I a w U=>?_;refine aA λI a w U=>?_;refine U.ap 4 λpB a w U=>?_;simp only[List.nil_append] at U;refine U.o .fv λU=>?_;try have V3:=U.cU 4 rfl
 refine al λI a w U=>?_;refine U.l0 λzT I a w U=>?_;refine ax λI a w U=>?_;refine St.lo (σ:=Nat×Value) (run 3 3 (run 20 22 [])) ⟨λ⟨k,v⟩=>[(4,AV.int k),(3,AV.val v)],λ⟨k,v⟩=>[Own.box b1 45 [AV.int q.aB,AV.int q.num,AV.int q.kind,fM q.keys,AV.int q.val,bm q.ctx,AV.int q.bw,AV.int q.end_,AV.bool q.over,AV.int q.aw.time,AV.int q.aw.site,j7 q.au,AV.val pB],Own.box b2 45 [AV.val (.int .i64 0),AV.val (.int .i64 0),AV.val (.int .i64 0),AV.rows 1 [],AV.val (.int .i64 0),AV.rows 3 [],AV.val (.int .i64 0),AV.val (.int .i64 0),AV.val (.bool false),AV.val (.int .i64 0),AV.val (.int .i64 0),AV.rows 9 [],AV.rows 3 []],Own.gone,Own.gone,Own.row pB 125 3 (q.aO.map ao.cells),Own.row v 56 9 ((q.au.take k).map Answer.cells)],λ⟨k,v⟩=>k<=q.au.length⟩ (λ⟨k,v⟩=>q.au.length-k) (0,.slice (some ⟨zT,0,none⟩) 0 0) U ?aD ?bh;case aD=>exact Nat.zero_le _
 rintro⟨k,v⟩ I a w aj U;have hk:k<=q.au.length:=aj;dsimp only at U;refine bP λI a w U=>?_;refine cz (λab=>?_) λab=>?_
 .refine bV λI a w U=>?_;refine U.alloc rfl dI lq λb5 I a w U=>?_;refine aV λI a w U=>?_;refine U.o (.c1 (ou _ (h5 _ (bK ab)))) λU=>U.o .fv λU=>U.mD 6 bI .tt .tt rfl rfl rfl λa w U=>?_;refine aA λI a w U=>?_;refine U.o (.li [(ae q.au k).cells] rB (.u .nil)) λU=>?_;refine U.ap 5 λxj a w U=>?_;rw[cA,<-ep ab] at U;refine aU λI a w U=>?_;have U:=U.drop 6;exact U.ag (k+1,xj) (ab)
 refine wp_exit<|bU<|bU<|eb<|ba<|wp_seq ?_;rw[List.take_of_length_le om] at U;refine aA λI a w U=>?_;try have ahh:=U.cU 5 rfl
 refine aI λI a w U=>?_;exact U.cE (v,pB) [5,4] rfl (.cons (.s 1 dm rfl rfl (by first|rfl|assumption)) .nil) trivial rfl rfl
def oK (q:Call) (k:Nat):List az:=(((q.keys.take k).filter λk=>decide (cQ q k<0)).map λkey=>jB q (uS key)).flatten
def qL (q:Call) (k:Nat):List az:=oK q q.keys.length++((q.aO.take k).map λd=>jB q (uT d)).flatten
def NV {q:Call} {k:Nat} (h:k<q.keys.length) (hg:cQ q (ae q.keys k)<0):oK q k++jB q (uS (ae q.keys k))=oK q (k+1):=by
 unfold oK;rw[mU h (by simpa using hg),List.map_append,List.flatten_append];simp
def NW {q:Call} {k:Nat} (h:k<q.keys.length) (hg:¬cQ q (ae q.keys k)<0):oK q k=oK q (k+1):=by
 unfold oK;rw[mV h (by simpa using hg)]
def XL {q:Call} {k:Nat} (h:k=q.keys.length):oK q k=qL q 0:=by subst h;simp[qL]
def NX {q:Call} {k:Nat} (h:k<q.aO.length):qL q k++jB q (uT (ae q.aO k))=qL q (k+1):=by
 unfold qL;rw[ep h,List.map_append,List.flatten_append,List.append_assoc];simp
def GX (q:Call):∀k,k<=q.keys.length->(oK q k).length<=2*k
 |0,_=>by simp[oK]
 |k+1,h=>by
  have ih:=GX q k om;by_cases hg:cQ q (ae q.keys k)<0
  .rw[<-NV om hg,List.length_append];show _+2<=_;omega
  rw[<-NW om hg];omega
def NY (q:Call):∀k,k<=q.aO.length->(qL q k).length<=2*q.keys.length+2*k
 |0,_=>by have:=GX q q.keys.length (Nat.le_refl _);simp[qL];omega
 |k+1,h=>by
  have ih:=NY q k om;rw[<-NX om,List.length_append];show _+2<=_;omega
def XM {q:Call} {k:Nat} (hw:hX q=true) (hk:¬q.kind=1) (h:q.aO.length<=k):qL q k=jF q:=by
 unfold jF asks qL oK;rw[if_pos hw,if_neg hk,List.take_length,List.take_of_length_le h,List.map_append,List.flatten_append,List.map_map,List.map_map];rfl
def NZ (key:Int):iV (uS key):=ND rfl rfl rfl rfl
def N1 (d:ao):iV (uT d):=ND rfl rfl rfl rfl
def XN (l:List Int) (left:Int) (h0:0<=left) (h1:left<=1048576):
 Fn prog 259 [fM l,AV.int left] (AV.int (dx left (z3 l))):=by
 refine Fn.go 12 func259 ntmps259 (λW I a U=>?_);have hle:=U.dD (t:=0) rfl;refine et λI a w U=>?_;refine cz (λab=>?_) λab=>?_
 .refine aW ?_;exact cj (qE ab (Nat.le_refl _))
 refine cK ?_;exact cj (Cn ab)
def XO (l:List ct) (left:Int) (h0:0<=left) (h1:left<=1048576):
 Fn prog 257 [l4 l,AV.int left] (AV.int (dx left (z4 l))):=by
 refine Fn.go 12 func257 ntmps257 (λW I a U=>?_);have hle:=U.dD (t:=0) rfl;refine et λI a w U=>?_;refine cz (λab=>?_) λab=>?_
 .refine aW ?_;exact cj (qE ab (Nat.le_refl _))
 refine cK ?_;exact cj (Cn ab)
def tE (l:List (ao)) (h:jl l<=1048576):
 gR prog 202 [bm l] KK.bD 3 (l.map ao.cells):=by
 refine gR.intro 23 func202 rfl ntmps202 rfl aq (λW I a U=>?_);have hl:l.length<=1048576:=by unfold jl at h;omega
 refine aV λI a w U=>?_;refine U.make rfl dw cM fE rfl .tt .tt om λb7 a w U=>?_;change St _ _ ([]++[Own.row (.slice (some ⟨b7,0,none⟩) l.length l.length) 125 3 (List.replicate l.length [AV.val (.int .i64 0),AV.val (.int .i64 0),AV.val (.int .i64 0)])]) _ _ _ at U;rw[<-Cz (f:=ao.cells)] at U;refine ax λI a w U=>?_;refine St.lo (σ:=Nat) (4::(run 14 8 [])) ⟨λk=>[(4,AV.int k)],λk=>[Own.row (.slice (some ⟨b7,0,none⟩) l.length l.length) 125 3 (partOf (ao.cells) [AV.val (.int .i64 0),AV.val (.int .i64 0),AV.val (.int .i64 0)] l k)],λk=>k<=l.length⟩ (λk=>l.length-k) 0 U ?aD ?bh;case aD=>exact Nat.zero_le _
 rintro k I a w aj U;have hk:k<=l.length:=aj;have lf:(partOf (ao.cells) [AV.val (.int .i64 0),AV.val (.int .i64 0),AV.val (.int .i64 0)] l k).length=l.length:=Cy hk;dsimp only at U;rw[<-lf] at U;refine aU λI a w U=>?_;refine cz (λab=>?_) λab=>?_
 .refine df λI a w U=>?_;refine U.o (.c1 (WG _)) λU=>?_;refine U.o (gv dw cM .tt .tt (λ_=>by omega)) λU=>?_;refine U.ja 0 cM .tt .tt rfl (by exact CB ab) rfl rfl λa w U=>?_;refine aI λI a w U=>?_;change St _ _ [Own.row (.slice (some ⟨b7,0,none⟩) (partOf (ao.cells) [AV.val (.int .i64 0),AV.val (.int .i64 0),AV.val (.int .i64 0)] l k).length (partOf (ao.cells) [AV.val (.int .i64 0),AV.val (.int .i64 0),AV.val (.int .i64 0)] l k).length) 125 3 ((partOf (ao.cells) [AV.val (.int .i64 0),AV.val (.int .i64 0),AV.val (.int .i64 0)] l k).set k (ao.cells (ae l k)))] _ _ _ at U;rw[lf,CC ab] at U;exact U.ag (k+1) (ab)
 refine zt ?_;refine ax λI a w U=>?_;rw[lf,CA om] at U;exact U.rq (r:=2) 0 rfl rfl rfl rfl
def N2 (x:aJ) (h:ow x<=1048576):
 bG prog 301 [x.av] [] (λt:VT=>VT.x t=x) (λt=>t.owns KK) (λt=>AV.agg t.cells):=by
 refine bG.intro 25 func301 rfl ntmps301 rfl aq (λW I a U=>?_);refine aX λI a w U=>?_;refine U.alloc rfl bI dY λb2 I a w U=>nn<|sr<|U.alloc rfl bI dY λb3 I a w U=>?_;refine df λI a w U=>?_;refine U.o (.c1 (CD ..)) λU=>U.o .fv λU=>U.mD 1 jg .tt .tt rfl rfl rfl λa w U=>?_;refine E4 λI a w U=>?_;refine U.gh (tE x.aK (by unfold ow at h;omega)) (an .r aH) rfl λI GY a w U=>?_;refine U.o .fv λU=>?_;try have XP:=U.cU 2 rfl
 refine aI λI a w U=>?_;refine U.cE (⟨x,GY⟩:VT) [2] rfl (.cons (.sx 0) .nil) rfl rfl rfl
def XQ (x:Answer) (h:ox x<=1048576):
 bG prog 302 [x.av] [] (λt:AT=>AT.x t=x) (λt=>t.owns KK) (λt=>AV.agg t.cells):=by
 refine bG.intro 15 func302 rfl ntmps302 rfl aq (λW I a U=>?_);refine aX λI a w U=>?_;refine U.alloc rfl dI lq λb2 I a w U=>nn<|sr<|U.alloc rfl dI lq λb3 I a w U=>?_;refine qg λI a w U=>?_;refine U.dX [] (N2 x.bl (by unfold ox at h;omega)) (an .tt aH) rfl bA rfl λt12 I a w xk U=>?_;obtain⟨GC,zw⟩:=t12;have XR:GC=x.bl:=xk;subst XR;have U:=U.nf;refine U.o .fv λU=>U.mD 1 bI .tt .tt rfl rfl rfl λa w U=>?_;refine ax λI a w U=>?_;refine U.cE (⟨x,zw⟩:AT) [2] rfl (.cons (.sx 0) .nil) rfl rfl rfl
def XS (x:Server):
 Fn prog 205 [x.av,x.av] (AV.bool true):=by
 refine Fn.go 45 func205 ntmps205 (λW I a U=>?_);refine et λI a w U=>?_;refine U.cd (λab=>?_) λab=>?_
 .exfalso;simp at ab;skip
 refine aR λI a w U=>?_;refine U.o (o1 .tt .tt n7) λU=>?_;refine zt ?_;refine U.cd (λah=>?_) λah=>?_
 .exfalso;simp at ah;skip
 refine aR λI a w U=>?_;refine U.o (.cl (Xq ..)) λU=>?_;refine al λI a w U=>?_;refine U.cd (λai=>?_) λai=>?_
 .exfalso;simp at ai;skip
 refine aR λI a w U=>?_;refine U.o (.cl (Cb ..)) λU=>?_;refine al λI a w U=>?_;refine U.cd (λaG=>?_) λaG=>?_
 .exfalso;simp at aG;skip
 refine aR λI a w U=>?_;refine U.o (.cl (Cb ..)) λU=>?_;refine al λI a w U=>?_;refine U.cd (λaL=>?_) λaL=>?_
 .exfalso;simp at aL;skip
 refine aR λI a w U=>?_;refine U.o (.cl (tb ..)) λU=>?_;refine al λI a w U=>?_;refine U.cd (λbc=>?_) λbc=>?_
 .exfalso;simp at bc;skip
 refine aR λI a w U=>?_;refine U.o (.cl (tb ..)) λU=>?_;refine al λI a w U=>?_;refine U.cd (λaY=>?_) λaY=>?_
 .exfalso;simp at aY;skip
 refine aW ?_;rfl
def XT (l:List (Server)):
 Fn prog 108 [n3 l,n3 l] (AV.bool true):=by
 refine Fn.go 27 func108 ntmps108 (λW I a U=>?_);have hle:=U.dD (t:=0) rfl;refine gy λI a w U=>?_;refine U.cd (λab=>?_) λab=>?_
 .exfalso;simp at ab;skip
 refine al λI a w U=>?_;refine St.lo (σ:=Nat) (run 2 4 (run 16 11 [])) ⟨λk=>[(5,AV.int k)],λk=>[],λk=>k<=l.length⟩ (λk=>l.length-k) 0 U ?aD ?bh;case aD=>exact Nat.zero_le _
 rintro k I a w aj U;have hk:k<=l.length:=aj;refine aU λI a w U=>?_;refine cz (λah=>?_) λah=>?_
 .refine zt ?_;refine U.dk ?_;refine kz ?_;refine .o (.c2 (XS ..)) ?_;refine br ?_;refine .nil ?_;intro I a w U;refine ba ?_;refine U.cd (λai=>?_) λai=>?_
  .exfalso;simp at ai;skip
  refine aI λI a w U=>?_;exact U.ag (k+1) (ah)
 refine zt ?_;refine aW ?_;rfl
def XU {H:Type} {enc:TypeId×Value->H} {W:World}:ly enc prog W Server.cells Server.Deep 197:=λn cs x h=>by
 obtain⟨xs,m,_,_,hl,hx,hf⟩:=DataW.trod_struct (show prog.underlying 197=some (.struct (prog.fieldsOf 197)) by kernel_rfl) h;rw[show prog.cellsOf 197=7 by kernel_rfl] at hl;obtain⟨y0,a0,b0⟩:=part (ft:=3) (off:=0) (s:=1) (i:=0) (eP (t:=3) aq) hx hf aq aq;obtain⟨y1,a1,b1⟩:=part (ft:=4) (off:=1) (s:=1) (i:=1) (BN (t:=4) aq) hx hf aq aq;obtain⟨y2,a2,b2⟩:=part (ft:=193) (off:=2) (s:=1) (i:=2) (jI (t:=193) (sz:=2) aq aq bA (λ_=>rfl) Xr) hx hf aq aq;obtain⟨y3,a3,b3⟩:=part (ft:=194) (off:=3) (s:=1) (i:=3) (jI (t:=194) (sz:=7) aq aq bA (λ_=>rfl) z5) hx hf aq aq;obtain⟨y4,a4,b4⟩:=part (ft:=194) (off:=4) (s:=1) (i:=4) (jI (t:=194) (sz:=7) aq aq bA (λ_=>rfl) z5) hx hf aq aq;obtain⟨y5,a5,b5⟩:=part (ft:=195) (off:=5) (s:=1) (i:=5) (jI (t:=195) (sz:=3) aq aq bA (λ_=>rfl) tw) hx hf aq aq;obtain⟨y6,a6,b6⟩:=part (ft:=195) (off:=6) (s:=1) (i:=6) (jI (t:=195) (sz:=3) aq aq bA (λ_=>rfl) tw) hx hf aq aq;exact⟨⟨y0,y1,y2,y3,y4,y5,y6⟩,c5 a0 (c5 a1 (c5 a2 (c5 a3 (c5 a4 (c5 a5 (c5 a6 (qn hl))))))),⟨b0,b1,b2,b3,b4,b5,b6⟩⟩
def IH {H:Type} {enc:TypeId×Value->H} {W:World}:ly enc prog W aM.cells aM.Deep 70:=λn cs x h=>by
 obtain⟨xs,m,_,_,hl,hx,hf⟩:=DataW.trod_struct (show prog.underlying 70=some (.struct (prog.fieldsOf 70)) by kernel_rfl) h;rw[show prog.cellsOf 70=5 by kernel_rfl] at hl;obtain⟨y0,a0,b0⟩:=part (ft:=3) (off:=0) (s:=1) (i:=0) (eP (t:=3) aq) hx hf aq aq;obtain⟨y1,a1,b1⟩:=part (ft:=65) (off:=1) (s:=1) (i:=1) (jI (t:=65) (sz:=7) aq aq bA (λ_=>rfl) XU) hx hf aq aq;obtain⟨y2,a2,b2⟩:=part (ft:=66) (off:=2) (s:=1) (i:=2) (jI (t:=66) (sz:=15) aq aq bA (λ_=>rfl) WL) hx hf aq aq;obtain⟨y3,a3,b3⟩:=part (ft:=67) (off:=3) (s:=1) (i:=3) (jI (t:=67) (sz:=13) aq aq bA (λ_=>rfl) WO) hx hf aq aq;obtain⟨y4,a4,b4⟩:=part (ft:=68) (off:=4) (s:=1) (i:=4) (jI (t:=68) (sz:=1) aq aq bA (λ_=>rfl) (jI (t:=195) (sz:=3) aq aq bA (λ_=>rfl) tw)) hx hf aq aq;exact⟨⟨y0,y1,y2,y3,y4⟩,c5 a0 (c5 a1 (c5 a2 (c5 a3 (c5 a4 (qn hl))))),⟨b0,b1,b2,b3,b4⟩⟩
def nS (q:Call) (k:Nat):List az:=(((asks q).take k).map (jB q)).flatten
def XV {q:Call} (h:q.ctx.length<=1048576):∀m∈asks q,iV m:=by
 intro m hm;unfold asks at hm;split at hm
 .obtain rfl:=List.mem_singleton.1 hm;exact⟨h,⟨Nat.zero_le _,λ_ h=>by cases h⟩,⟨Nat.zero_le _,λ_ h=>by cases h⟩,Nat.zero_le _⟩
 rcases List.mem_append.1 hm with hm|hm
 .obtain⟨k,_,rfl⟩:=List.mem_map.1 hm;exact NZ k
 obtain⟨d,_,rfl⟩:=List.mem_map.1 hm;exact N1 d
def GZ (q:Call):∀k,k<=(asks q).length->(nS q k).length=2*k
 |0,_=>by simp[nS]
 |k+1,h=>by
  have ih:=GZ q k om;unfold nS at ih⊢;rw[ep om,List.map_append,List.flatten_append,List.length_append,ih];rfl
def XW {q:Call} {k i:Nat} (h:k<(asks q).length) (hi:2<=i):nS q k++(jB q (ae (asks q) k)).take i=nS q (k+1):=by
 unfold nS;rw[List.take_of_length_le (l:=jB _ _) (by simpa[jB] using hi),ep h,List.map_append,List.flatten_append];simp
def N3 {q:Call} {k:Nat} (hw:hX q=true) (h:(asks q).length<=k):nS q k=jF q:=by
 unfold nS jF;rw[if_pos hw,List.take_of_length_le h]
def m0 (q:Call):Nat->List ao
 |0=>q.aO
 |k+1=>m0 q k++nP (fw q) (ae q.au k)
def N4 (q:Call):∀k,k<=q.au.length->m0 q k=q.aO++((q.au.take k).map (nP (fw q))).flatten
 |0,_=>by simp[m0]
 |k+1,h=>by
  show m0 q k++_=_;rw[N4 q k om,ep om,List.map_append,List.flatten_append,List.append_assoc];simp
def G0 {q:Call} {k:Nat} (h:k<q.au.length):m0 q (k+1)=m0 q k++nP (fw q) (ae q.au k):=rfl
def XX {q:Call} {k:Nat} (h:k<q.au.length) (hl:dy (ae q.au k).bl.aw (cB (fw q) (ae q.au k).key)=true):m0 q k++[⟨(ae q.au k).key,cB (fw q) (ae q.au k).key⟩]=m0 q (k+1):=by
 rw[G0 h];unfold nP;rw[if_pos hl]
def XY {q:Call} {k:Nat} (h:k<q.au.length) (hl:¬dy (ae q.au k).bl.aw (cB (fw q) (ae q.au k).key)=true):m0 q k=m0 q (k+1):=by
 rw[G0 h];unfold nP;rw[if_neg hl,List.append_nil]
def N5 (q:Call):∀k,k<=q.au.length->(m0 q k).length<=q.aO.length+k
 |0,_=>by simp[m0]
 |k+1,h=>by
  have ih:=N5 q k om;rw[G0 om,List.length_append];have:(nP (fw q) (ae q.au k)).length<=1:=by unfold nP;split<;>simp
  omega
def XZ {q:Call} {k:Nat} (hk:k<=q.au.length) (h:q.au.length<=k):m0 q k=q.aO++lB q:=by rw[N4 q k hk];unfold lB;rw[List.take_of_length_le h]
def X0 {q:Call} {a:Answer} {k:Nat} (h:k<q.aO.length) (he:ae q.aO k≠a.bl.bD):oz q a k=oz q a (k+1):=by
 unfold oz;by_cases hm:a.bl.bD∈q.aO.take k
 .rw[if_pos hm,if_pos ((GD h).2 (.inl hm))]
 rw[if_neg hm,if_neg λhh=>((GD h).1 hh).elim hm λe=>he e.symm]
def X1 (q:Call) (a:Answer) (k:Nat):(ot q a k).length<=q.aO.length:=qC _ _ _
def pI (q:Call) (k:Nat):List ao:=((q.au.take k).filter λa=>!eH (cB (fw q) a.key)&&nM a (cB (fw q) a.key)).map λa=>⟨a.key,cB (fw q) a.key⟩
def X2 {q:Call} {k:Nat} (h:k<q.au.length) (hp:(!eH (cB (fw q) (ae q.au k).key)&&nM (ae q.au k) (cB (fw q) (ae q.au k).key))=true):pI q k++[⟨(ae q.au k).key,cB (fw q) (ae q.au k).key⟩]=pI q (k+1):=by
 unfold pI;rw[mU h (by simpa using hp),List.map_append];rfl
def X3 {q:Call} {k:Nat} (h:k<q.au.length) (hp:(!eH (cB (fw q) (ae q.au k).key)&&nM (ae q.au k) (cB (fw q) (ae q.au k).key))=false):pI q k=pI q (k+1):=by
 unfold pI;rw[mV h (by simpa using hp)]
def X4 (q:Call) (k:Nat):(pI q k).length<=q.au.length:=by
 unfold pI;rw[List.length_map];exact Nat.le_trans (List.length_filter_le ..) (by rw[List.length_take];omega)
def X5 {a:Answer} (h:eh a=true):dy a.bl.aw gO=false:=by
 cases hy:a.yes
 .rw[Cs h hy];rfl
 have:=(Ai h hy).1;simp only[kh,Bool.and_eq_true] at this;have U:=this.2;simp[dB,aS,aJ.bD] at U;rw[Bool.eq_false_iff];intro e;simp[dy,gO] at e;have h1:=of_decide_eq_true U.1.1;rcases e with e|⟨e,_⟩
 .have:=of_decide_eq_true e;omega
 omega
def X6 {a:Answer} {s:cG} (h:eh a=true) (U:rP s):(!eH s&&nM a s)=dy a.bl.aw s:=by
 rcases U with rfl|U
 .rw[X5 h];rfl
 rw[NG h U];have:eH s=false:=by simp[dB,aS] at U;simp[eH];intro e;rw[e] at U;simp at U
 rw[this];rfl
def X7 (q:Call) (n:Value):
 Fn prog 228 [q.wU n] (AV.bool (oG q)):=by
 refine Fn.go 10 func228 ntmps228 (λW I a U=>?_);refine n4 λI a w U=>?_;refine U.rt ?_;rfl
def X8 {s:Server} {d:ao} (h:fU s.aE=true):s.aE.filter (λx=>!decide (x=d))=if 0<=gB s.aE d then s.aE.take (gB s.aE d).toNat++s.aE.drop ((gB s.aE d).toNat+1) else s.aE:=by
 split
 .rename_i hi;refine Xt ((wN.1 h).2.2.imp λ{a b} hl e=>?_) (Mu hi) (of_decide_eq_true (B2 (p:=λe=>decide (e=d)) hi).2.1);subst e;rw[BV] at hl;cases hl
 rename_i hi;exact List.filter_eq_self.2 λx hx=>by simpa using MA om x hx
def X9:
 Fn prog 78 [] (oi.av):=by
 refine Fn.go 17 func78 ntmps78 (λW I a U=>?_);refine sr<|U.alloc rfl dz dT λb0 I a w U=>?_;refine zt ?_;refine U.make rfl pb iH KE rfl .c .c (by exact⟨by decide,by decide⟩) λb3 a w U=>?_;obtain⟨I,U⟩:=U.fr 1 3;refine U.o (.bd ny (.k bf.nil)) λU=>?_;refine U.alloc rfl dz ny λb1 I a w U=>?_;refine al λI a w U=>?_;have U:=U.en (sz:=7) 95;refine al λI a w U=>?_;refine St.lo (σ:=Nat×Value) (2::(run 11 5 [])) ⟨λ⟨k,p⟩=>[(5,AV.int k)],λ⟨k,p⟩=>[Own.box b0 28 [AV.val (.int .i64 0),AV.rows 7 [],AV.rows 15 [],AV.rows 13 [],AV.rows 1 []],Own.gone,Own.box b1 28 [AV.int 0,AV.val p,AV.val (.slice none 0 0),AV.val (.slice none 0 0),lG [[],[]]],Own.row p 95 7 ((wV k).map Server.cells)],λ⟨k,p⟩=>k<=4⟩ (λ⟨k,p⟩=>4-k) (0,.slice none 0 0) U ?aD ?bh;case aD=>exact Nat.zero_le _
 rintro⟨k,p⟩ I a w aj U;have hk:k<=4:=aj;dsimp only at U;refine al λI a w U=>?_;refine cz (λab=>?_) λab=>?_
 .refine ax λI a w U=>?_;refine U.dt 5 ?_;simp only[TD];refine ee ?_;refine .o (bx (XI k om) (an (.t rfl) aH)) ?_;refine .o (.li [(qA k).cells] wk (.u .nil)) ?_;refine .nil ?_;intro I a w U;refine U.append 3 rfl jw bL rfl .tt .r rfl (by rw[List.length_map,Gi];simp;omega) λAl a w U=>?_;refine U.o .fv λU=>?_;try have N6:=U.cU 3 rfl
  refine al λI a w U=>?_;rw[cA] at U;refine ax λI a w U=>?_;exact U.ag (k+1,Al) (by show k+1<=4;omega)
 refine wp_exit<|bU<|bU<|eb<|ba<|wp_seq ?_;have jk:k=4:=by omega
 subst jk;obtain⟨I,U⟩:=U.fu 3 1 2;have U:=U.lX (q:=2) 2 rfl rfl (eQ 15 _);have U:=U.lX (q:=3) 2 rfl rfl (eQ 13 _);refine ax λI a w U=>?_;refine U.ret rfl (.cons (.sx 0) aZ.nil) ?_;rfl
def Ya (c0:Call) (aB:Int):
 Fn prog 286 [c0.av,AV.ptr [AV.int aB]] (AV.bool (tn aB c0)):=by
 refine Fn.go 12 func286 ntmps286 (λW I a U=>?_);refine lJ λI a w U=>?_;refine U.q .T (.cl (Gq c0)) λU=>?_;refine cK ?_;exact bT (by unfold tn hX;rw[Bool.and_assoc])
def G1 (l:List Call) (t:Int) (s r z:Value) (aB:Int):
 Fn prog 230 [AV.ptr [AV.int t,AV.val s,AV.val r,jb l,AV.val z],AV.int aB] (AV.int (cI l aB)):=by
 refine Fn.go 11 func230 ntmps230 (λW I a U=>?_);refine zt ?_;refine U.o (vM .tt (by first|exact cL rfl|exact cN|exact cO|exact cP)) λU=>?_;refine bV λI a w U=>?_;refine U.o (nj (an .tt aH)) λU=>?_;refine U.o (.cl (Wq l (tn aB) _ (λq _=>Fn.val (Ya q aB)))) λU=>?_;refine aW ?_;rfl
def Yb (site:Nat) (h4:site<4):
 bG prog 153 [AV.int (site:Int)] [] (λt:ST=>t.plain=qA site) (λt=>t.owns KK) (λt=>AV.agg t.cells):=by
 refine bG.intro 33 func153 rfl ntmps153 rfl aq (λW I a U=>?_);have uv:de (site:Int)=true:=mu.2 om;refine sr<|U.alloc rfl bL di λb2 I a w U=>?_;refine aX λI a w U=>?_;refine U.o (.c1 (qH ..)) λU=>?_;refine al λI a w U=>?_;refine U.cd (λab=>?_) λab=>?_
 .exfalso;rw[uv] at ab;cases ab;skip
 refine aX λI a w U=>?_;refine U.o (.bd wj (.k (.k bf.nil))) λU=>?_;refine U.alloc rfl bL wj λb3 I a w U=>?_;refine al λI a w U=>?_;have U:=U.en (sz:=2) 97;refine al λI a w U=>?_;refine St.lo (σ:=Nat×Value) (4::(run 21 11 [])) ⟨λ⟨k,v⟩=>[(11,AV.int k)],λ⟨k,v⟩=>[Own.box b2 95 [AV.val (.int .i64 0),AV.val (.bool false),AV.rows 2 [],AV.rows 7 [],AV.rows 7 [],AV.rows 3 [],AV.rows 3 []],Own.box b3 95 [AV.int (site:Int),AV.bool true,AV.val v,AV.val (.slice none 0 0),AV.val (.slice none 0 0),AV.val (.slice none 0 0),AV.val (.slice none 0 0)],Own.row v 97 2 ((pC site k).map ct.cells)],λ⟨k,v⟩=>k<=3⟩ (λ⟨k,v⟩=>3-k) (0,.slice none 0 0) U ?aD ?bh;case aD=>exact Nat.zero_le _
 rintro⟨k,v⟩ I a w aj U;have hk:k<=3:=aj;dsimp only at U;refine al λI a w U=>?_;refine cz (λah=>?_) λah=>?_
 .refine aV λI a w U=>?_;refine U.o (lZ .tt .c (λ_=>by omega)) λU=>?_;refine U.m λU=>?_;refine U.o (lZ .tt .c (λ_=>by omega)) λU=>?_;refine al λI a w U=>?_;refine cz (λai=>?_) λai=>?_
  .refine aA λI a w U=>?_;refine U.o (.bd kD (.k (.k bf.nil))) λU=>?_;refine U.o (.li [ct.cells ⟨1,1⟩] wm (.u .nil)) λU=>?_;refine U.append 2 rfl eM dP rfl .tt .r rfl (by rw[List.length_map,w6];simp;omega) λwL a w U=>?_;refine U.o .fv λU=>?_;try have XJ:=U.cU 2 rfl
   refine aI λI a w U=>?_;rw[cA,Gn (by simpa using ai)] at U;exact U.ag (k+1,wL) (by show k+1<=3;omega)
  refine aA λI a w U=>?_;refine U.o (.bd kD bf.nil) λU=>?_;refine U.o (.li [ct.cells ⟨0,0⟩] wm (.u .nil)) λU=>?_;refine U.append 2 rfl eM dP rfl .tt .r rfl (by rw[List.length_map,w6];simp;omega) λtD a w U=>?_;refine U.o .fv λU=>?_;try have NS:=U.cU 2 rfl
  refine aI λI a w U=>?_;rw[cA,Gp (by simpa using ai)] at U;exact U.ag (k+1,tD) (by show k+1<=3;omega)
 refine zt ?_;refine ax λI a w U=>?_;have eZ:k=3:=by omega
 subst eZ;have U:=U.oa KK.bl 7 VT.cells (VT.owns KK);have U:=U.oa KK.bl 7 VT.cells (VT.owns KK);have U:=U.en (sz:=3) KK.bD;have U:=U.en (sz:=3) KK.bD;refine U.cE (⟨qA site,v,(.slice none 0 0),(.slice none 0 0),(.slice none 0 0),(.slice none 0 0),[],[]⟩:ST) [2,3,4,5,6] rfl (.cons (.sx 0) .nil) rfl rfl rfl
end Go.Proofs.YtldbakcpcfdlaaaGreat
