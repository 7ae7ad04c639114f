/- Part 26: rules of the proofs, contracts of functions, plain facts. -/
import Derived.Test.YtoeioeimmfpefaaGreatP25
set_option linter.unusedVariables false
set_option linter.unusedSimpArgs false
set_option maxRecDepth 100000
set_option maxHeartbeats 4000000
namespace Go.Proofs.YtoeioeimmfpefaaGreat
open Go Go.RowKit
attribute [local irreducible] wpList Code.wp Ok
theorem ql {α:Type} {p:α→Bool} {l:List α} {x:α} (h:x∈l.filter p):x∈l:=(List.mem_filter.1 h).1
theorem dW.IV {s:Server} (h:dW s) {d:ar} (hl:s.bq.length<80):dW {s with bq:=dV s.bq d}:=⟨h.aR,h.aq,h.waits,h.apart,by have:=IB s.bq d;show(dV s.bq d).length≤80;omega⟩
theorem dW.drop {s:Server} (h:dW s) (slot:Int):dW (dX s slot):=
 ⟨h.aR,wZ h.aq (List.filter_sublist),wZ h.waits (List.filter_sublist),fun v hv=>yV fun x hx=>oK (h.apart v (ql hv)) x (ql hx),h.bq⟩
theorem dW.Q3 {s:Server} (h:dW s) {x:List dt} (hx:x.length=3):dW {s with aR:=x}:=⟨hx,h.aq,h.waits,h.apart,h.bq⟩
theorem dW.gone {s:Server} (h:dW s) (m:aD):dW (rp s m):=(h.drop m.slot).Q3 (by show(s.aR.set _ _).length=3;rw[List.length_set];exact h.aR)
theorem dW.CS {s:Server} (h:dW s) {v:aK} (hc:gV s.waits v=true) (hp:placeOf s.aq v.bH<0):dW {s with waits:=eE s.waits v}:=by
 obtain⟨h1,h2,h3⟩:=sS hc
 refine⟨h.aR,h.aq,y9 h.waits h1 h2 h3,fun x hx=>?_,h.bq⟩
 rcases lr.1 hx with rfl|hx
 ·exact hp
 ·exact h.apart x hx
theorem IW {l:List ar} {d:ar} (h:0≤fH l d):(fH l d).toNat<l.length:=by
 unfold fH dm at*
 split at h
 ·rename_i k hk
  obtain⟨h1,_⟩:=List.findIdx?_eq_some_iff_getElem.1 hk
  simpa using h1
 ·omega
theorem IX {m:aD} (h:bN m=true):cU m.key=true:=by
 simp only[bN,Bool.and_eq_true] at h;exact h.1.1.1.1.1.1.1.1.2
theorem zc {m:aD} (h:bN m=true):0≤m.slot∧m.slot<3:=by
 simp only[bN,Bool.and_eq_true,aQ,decide_eq_true_eq] at h;omega
theorem mo {m:aD} (h:bN m=true):cg m.aq=true∧cg m.waits=true∧fe m.aH=true∧bT m.aS=true:=by
 simp only[bN,Bool.and_eq_true] at h;exact⟨h.1.1.2,h.1.2,h.2,h.1.1.1.1.1.2⟩
theorem CT {α:Type} [Inhabited α] {p:α→Bool} {l:List α}:hasB p l=true↔∃x∈l,p x=true:=⟨Ci,fun⟨_,hx,hp⟩=>yy hx hp⟩
theorem CU {α:Type} [Inhabited α] {p:α→Bool} {l:List α}:hasB p l=false↔∀x∈l,p x=false:=by
 rw[←Bool.not_eq_true,CT]
 exact⟨fun h x hx=>by cases hp:p x;rfl;exact absurd ⟨x,hx,hp⟩ h,fun h ⟨x,hx,hp⟩=>by rw[h x hx] at hp;cases hp⟩
theorem w3 {α:Type} [Inhabited α] {p:α→Bool} {l:List α}:(cO l.length fun i=>p (ab l i))=true↔∀x∈l,p x=true:=by
 rw[iy]
 exact⟨fun h x hx=>by obtain⟨k,hk,rfl⟩:=hO hx;exact h k hk,fun h i hi=>h _ (bx hi)⟩
theorem CV {l:List aK} {d:ar}:0≤placeOf l d↔∃x∈l,x.bH=d:=by
 constructor
 ·intro h
  obtain⟨h1,h2⟩:=wH h
  exact⟨_,bx h1,h2⟩
 ·rintro⟨x,hx,he⟩
  apply Int.not_lt.1
  intro hn
  exact oK hn x hx he
theorem IY {l:List aK} {d:ar}:placeOf l d<0↔∀x∈l,x.bH≠d:=⟨oK,yV⟩
theorem Q4 {l:List aK} {ds:List ar}:tY l ds=true↔∀d∈ds,∃x∈l,x.bH=d:=by
 unfold tY
 rw[Bool.not_eq_true',CU]
 refine forall_congr' fun d=>forall_congr' fun hd=>?_
 rw[←CV]
 unfold missing
 simp
structure bw (s:Server):Prop where
 site:cJ s.site=true
 aR:s.aR.length=3
 aq:cg s.aq=true
 waits:cg s.waits=true
 aH:fe s.aH=true
 bq:fe s.bq=true
 up:s.up=false→s.bq=[]
 eD:∀x∈s.aR,nD x=true
 here:∀v∈s.aq,eh s v.key≠0
 mY:∀v∈s.waits,eh s v.key≠0
 mZ:∀v∈s.waits,bV v.aA.site≠bV s.site
 apart:∀v∈s.waits,∀x∈s.aq,x.bH≠v.bH
 m0:∀d∈s.aH,∃x∈s.aq,x.bH=d
theorem iw {s:Server}:fV s=true↔bw s:=by
 have e1:(cO s.aR.length (oD s))=true↔∀x∈s.aR,nD x=true:=by
  have e:oD s=fun i=>nD (ab s.aR i):=by funext i;unfold oD;rfl
  rw[e];exact w3
 have e2:(cO s.aq.length (pV s))=true↔∀x∈s.aq,(eh s x.key !=0)=true:=by
  have e:pV s=fun i=>(fun v:aK=>eh s v.key !=0) (ab s.aq i):=by funext i;unfold pV;rfl
  rw[e];exact w3 (p:=fun v:aK=>eh s v.key !=0)
 have e3:(cO s.waits.length (oE s))=true↔∀x∈s.waits,pW s x=true:=by
  have e:oE s=fun i=>pW s (ab s.waits i):=by funext i;unfold oE;rfl
  rw[e];exact w3
 have eu:(!(!s.up&&decide (0<s.bq.length)))=true↔(s.up=false→s.bq=[]):=by
  cases s.up<;>simp
 unfold fV qX
 simp only[Bool.and_eq_true,decide_eq_true_eq]
 rw[e1,e2,e3,Q4,eu]
 constructor
 ·rintro⟨⟨⟨⟨⟨⟨⟨⟨⟨⟨a1,a2⟩,a3⟩,a4⟩,a5⟩,a6⟩,a7⟩,a8⟩,a9⟩,sU⟩,w4⟩
  refine⟨a1,a2,a3,a4,a5,a6,a7,a8,fun v hv=>by simpa using a9 v hv,fun v hv=>?_,fun v hv=>?_,fun v hv=>?_,w4⟩<;>
   have:=sU v hv<;>simp only[pW,Bool.and_eq_true,decide_eq_true_eq,IY,bne_iff_ne] at this
  ·exact this.1.1
  ·exact this.1.2
  ·exact this.2
 ·intro h
  refine⟨⟨⟨⟨⟨⟨⟨⟨⟨⟨h.site,h.aR⟩,h.aq⟩,h.waits⟩,h.aH⟩,h.bq⟩,h.up⟩,h.eD⟩,fun v hv=>by simpa using h.here v hv⟩,fun v hv=>?_⟩,h.m0⟩
  simp only[pW,Bool.and_eq_true,decide_eq_true_eq,IY,bne_iff_ne]
  exact⟨⟨h.mY v hv,h.mZ v hv⟩,h.apart v hv⟩
theorem bw.ok {s:Server} (h:bw s):dW s:=CP (iw.2 h)
theorem IZ {l:List aK} {v:aK} {d:ar} (h:∃x∈l,x.bH=d):∃x∈eE l v,x.bH=d:=let⟨x,hx,e⟩:=h;⟨x,lr.2 (.inr hx),e⟩
theorem zd:∀{l:List ar} {d x:ar},x∈je l d↔x=d∨x∈l
 |[],d,x=>by simp[je]
 |e::r,d,x=>by
  unfold je
  split
  ·simp
  ·rw[List.mem_cons,zd,List.mem_cons]
   constructor
   ·rintro(h|h|h)<;>simp[h]
   ·rintro(h|h|h)<;>simp[h]
theorem I4:∀{l:List ar} {d:ar},(l.Pairwise fun a b=>dD a b=true)→(∀x∈l,x≠d)→(je l d).Pairwise fun a b=>dD a b=true
 |[],d,_,_=>by simp[je]
 |e::r,d,h,hn=>by
  unfold je
  rw[List.pairwise_cons] at h
  split
  ·rename_i hl
   rw[List.pairwise_cons]
   refine⟨fun x hx=>?_,List.pairwise_cons.2 h⟩
   rcases List.mem_cons.1 hx with rfl|hx
   ·exact hl
   ·exact wG hl (h.1 x hx)
  ·rename_i hl
   rw[List.pairwise_cons]
   refine⟨fun x hx=>?_,I4 h.2 fun x hx=>hn x (by simp[hx])⟩
   rcases zd.1 hx with rfl|hx
   ·cases hd:dD e x with
    |true=>rfl
    |false=>exact absurd (yT hd (by simpa using hl)) (hn e (by simp))
   ·exact h.1 x hx
theorem uC {l:List ar} {d:ar}:0≤fH l d↔d∈l:=by
 have:=CT (p:=fun e=>decide (e=d)) (l:=l)
 unfold hasB at this
 simp only[decide_eq_true_eq] at this
 unfold fH
 rw[this]
 exact⟨fun⟨x,hx,e⟩=>e▸hx,fun h=>⟨d,h,rfl⟩⟩
theorem Q5 {l:List ar} {d x:ar}:x∈dV l d↔x=d∨x∈l:=by
 unfold dV
 split
 ·rename_i h
  exact⟨.inr,fun h'=>h'.elim (fun e=>e▸uC.1 h) id⟩
 ·exact zd
theorem I5 {l:List ar} {d:ar} (h:fe l=true) (hd:jA d=true) (hl:l.length<80):fe (dV l d)=true:=by
 obtain⟨h1,h2,h3⟩:=ux.1 h
 unfold dV
 split
 ·exact h
 ·rename_i hn
  refine ux.2 ⟨by rw[IA];omega,fun x hx=>?_,I4 h3 fun x hx e=>hn (uC.2 (e▸hx))⟩
  rcases zd.1 hx with rfl|hx
  ·exact hd
  ·exact h2 x hx
theorem ze {α:Type} {l:List α} {n:Nat} {x:α} (h:x∈l.take n++l.drop (n+1)):x∈l:=(uy l n).subset h
theorem bw.uz {s:Server} (h:bw s) (hp:0≤eA s):bw (lu s (eA s).toNat):=by
 obtain⟨hl,mW,hg⟩:=wN hp
 have hm:=bx hl
 have al:=h.ok.uz hp
 refine⟨h.site,h.aR,al.aq,al.waits,h.aH,h.bq,h.up,h.eD,fun v hv=>?_,fun v hv=>h.mY v (ze hv),fun v hv=>h.mZ v (ze hv),fun v hv=>oK (al.apart v hv),fun d hd=>IZ (h.m0 d hd)⟩
 rcases lr.1 hv with rfl|hv
 ·exact h.mY _ hm
 ·exact h.here v hv
theorem bw.kG:∀(n:Nat) {s:Server},bw s→bw (kG n s)
 |0,_,h=>h
 |n+1,s,h=>by
  unfold Go.Proofs.YtoeioeimmfpefaaGreat.kG
  split
  ·exact h
  ·exact bw.kG n (h.uz (by omega))
theorem bw.CQ {s:Server} (h:bw s):bw (gD s):=bw.kG _ h
theorem bw.fN {s:Server} (h:bw s):bw (yZ s):=
 ⟨h.site,h.aR,h.aq,h.waits,h.aH,za h.bq List.filter_sublist,fun e=>by show s.bq.filter _=[];rw[h.up e];rfl,h.eD,h.here,h.mY,h.mZ,h.apart,h.m0⟩
theorem bw.settle {s:Server} (h:bw s):bw (fX s):=h.CQ.fN
theorem Q6 (s:Server):(gD s).site=s.site∧(gD s).up=s.up∧(gD s).aR=s.aR∧(gD s).aH=s.aH∧(gD s).bq=s.bq:=IT _ s
theorem w5 (s:Server):(fX s).site=s.site∧(fX s).up=s.up∧(fX s).aR=s.aR∧(fX s).aH=s.aH:=by
 obtain⟨a,b,d,e,_⟩:=Q6 s
 exact⟨a,b,d,e⟩
theorem bw.dX {s:Server} (h:bw s) (slot:Int):bw (dX s slot):=by
 have al:=h.ok.drop slot
 refine⟨h.site,h.aR,al.aq,al.waits,za h.aH List.filter_sublist,h.bq,h.up,h.eD,fun v hv=>h.here v (ql hv),fun v hv=>h.mY v (ql hv),fun v hv=>h.mZ v (ql hv),
  fun v hv x hx=>h.apart v (ql hv) x (ql hx),fun d hd=>?_⟩
 obtain⟨h1,h2⟩:=List.mem_filter.1 hd
 obtain⟨x,hx,e⟩:=h.m0 d h1
 refine⟨x,List.mem_filter.2 ⟨hx,?_⟩,e⟩
 subst e;exact h2
theorem Q7 {s:Server} {slot:Int} {y:dt} {key:Int} (h:gx key≠slot) (h0:0≤slot) (hk:cU key=true):eh {s with aR:=s.aR.set slot.toNat y} key=eh s key:=by
 have hr:=nF hk
 unfold eh ab
 simp only[List.getD_eq_getElem?_getD]
 rw[List.getElem?_set_ne (by omega)]
theorem Q8 {s:Server} {slot:Int} {y:dt} {key:Int} (h:gx key=slot) (h0:0≤slot) (h3:slot<s.aR.length):eh {s with aR:=s.aR.set slot.toNat y} key=y.er:=by
 unfold eh ab
 simp only[List.getD_eq_getElem?_getD,h]
 rw[List.getElem?_set_self (by omega)];rfl
theorem I6 {s:Server} {slot:Int}:(∀v∈(Go.Proofs.YtoeioeimmfpefaaGreat.dX s slot).aq,gx v.key≠slot)∧(∀v∈(Go.Proofs.YtoeioeimmfpefaaGreat.dX s slot).waits,gx v.key≠slot):=by
 constructor<;>intro v hv<;>have:=(List.mem_filter.1 hv).2<;>simpa[eF] using this
theorem bw.I7 {s:Server} (h:bw s) {slot:Int} {y:dt} (h0:0≤slot) (hy:nD y=true) (hv:∀v∈s.aq,gx v.key=slot→y.er≠0) (hw:∀v∈s.waits,gx v.key=slot→y.er≠0) (h3:slot<3):bw {s with aR:=s.aR.set slot.toNat y}:=by
 have key:∀v:aK,et v=true→eh s v.key≠0→(gx v.key=slot→y.er≠0)→eh {s with aR:=s.aR.set slot.toNat y} v.key≠0:=fun v Q9 h1 h2=>by
  by_cases hs:gx v.key=slot
  ·rw[Q8 hs h0 (by rw[h.aR];omega)];exact h2 hs
  ·rw[Q7 hs h0 (nE Q9)];exact h1
 refine⟨h.site,by show(s.aR.set _ _).length=3;rw[List.length_set];exact h.aR,h.aq,h.waits,h.aH,h.bq,h.up,fun x hx=>?_,fun v mq=>key v (gA h.aq v mq) (h.here v mq) (hv v mq),fun v mq=>key v (gA h.waits v mq) (h.mY v mq) (hw v mq),h.mZ,h.apart,h.m0⟩
 rcases List.mem_or_eq_of_mem_set hx with hx|rfl
 ·exact h.eD x hx
 ·exact hy
theorem sV {x:dt}:nD x=true↔0≤x.bO∧x.bO≤9999∧0≤x.er∧x.er≤2∧(x.er≠0→x.bO≠0):=by
 unfold nD aQ
 simp only[Bool.and_eq_true,decide_eq_true_eq,Bool.not_eq_true',Bool.and_eq_false_iff,bne_eq_false_iff_eq,beq_eq_false_iff_ne]
 constructor
 ·rintro⟨⟨⟨a,b⟩,d,e⟩,f⟩;exact⟨a,b,d,e,fun h=>f.resolve_left h⟩
 ·rintro⟨a,b,d,e,f⟩;exact⟨⟨⟨a,b⟩,d,e⟩,by by_cases h:x.er=0;exact .inl h;exact .inr (f h)⟩
theorem mr {m:aD} (h:bN m=true):(1≤m.kind∧m.kind≤10)∧j7 m.bc=true∧j7 m.to=true∧(0≤m.call∧m.call≤99)∧cU m.key=true∧jz m.aA=true∧(0≤m.val∧m.val≤9999)∧bT m.aS=true∧(0≤m.slot∧m.slot≤2)∧(0≤m.bO∧m.bO≤9999)∧cg m.aq=true∧cg m.waits=true∧fe m.aH=true:=by
 simp only[bN,Bool.and_eq_true,aQ,decide_eq_true_eq] at h
 obtain⟨⟨⟨⟨⟨⟨⟨⟨⟨⟨⟨⟨a1,a2⟩,a3⟩,a4⟩,a5⟩,a6⟩,a7⟩,a8⟩,a9⟩,sU⟩,w4⟩,CW⟩,CX⟩:=h
 exact⟨a1,a2,a3,a4,a5,a6,a7,a8,a9,sU,w4,CW,CX⟩
theorem zf {s:Server} {key:Int} (h:eW s key=true):cU key=true∧eh s key=1:=by
 unfold eW at h;rw[Bool.and_eq_true] at h;exact⟨h.1,by simpa using h.2⟩
theorem CY {l:List ar} (h:bT l=true):∀d∈l,jA d=true:=fun d hd=>nG h hd
theorem Ra {site:Int} {l:List ct} (hn:cJ site=true) (hl:∀s∈l,c6 s=true) (ho:iG l=true):c6 (nP site l)=true∧(nP site l).site=site∧∀s∈l,s.time<(nP site l).time:=by
 have hr:=yX hl l.length
 rw[List.take_length] at hr
 have hm:mf l<9999:=by simpa[iG] using ho
 have hle:∀(l:List ct) (t:Int),t≤l.foldl (fun t s=>if t<s.time then s.time else t) t∧∀s∈l,s.time≤l.foldl (fun t s=>if t<s.time then s.time else t) t:=by
  intro l
  induction l with
  |nil=>intro t;simp
  |cons a r ih=>
   intro t
   rw[List.foldl_cons]
   have h1:=ih (if t<a.time then a.time else t)
   have h2:t≤(if t<a.time then a.time else t)∧a.time≤(if t<a.time then a.time else t):=by split<;>omega
   refine⟨by omega,fun s hs=>?_⟩
   rcases List.mem_cons.1 hs with rfl|hs
   ·omega
   ·exact h1.2 s hs
 unfold nP
 rw[ho,if_pos rfl]
 refine⟨by simp[c6,aQ,hn];omega,rfl,fun s hs=>?_⟩
 have:=(hle l 0).2 s hs
 show s.time<mf l+1
 unfold mf;omega
theorem CZ {s:Server} {m:aD} (h:bw s) (hm:bN m=true):∀x∈iT s m,c6 x=true:=by
 intro x hx
 unfold iT at hx
 rcases List.mem_append.1 hx with hx|hx
 ·obtain⟨d,hd,rfl⟩:=List.mem_map.1 hx
  have:=CY (mr hm).2.2.2.2.2.2.2.1 d hd
  simp only[jA,Bool.and_eq_true] at this;exact this.2
 ·split at hx
  ·rename_i v hv
   obtain rfl:x=v.aA:=by simpa using hx
   exact(jE (gA h.aq v (CD hv).1)).2.1
  ·simp at hx
theorem C0 {s:Server} {m:aD} (h:bw s) (hm:bN m=true) (ho:iG (iT s m)=true):(fJ s m).aA.site=s.site∧c6 (fJ s m).aA=true∧∀x∈iT s m,x.time<(fJ s m).aA.time:=by
 obtain⟨h1,h2,h3⟩:=Ra h.site (CZ h hm) ho
 exact⟨h2,h1,h3⟩
theorem bw.put {s:Server} (h:bw s) {v:aK} (hc:gV s.aq v=true) (hs:bV v.aA.site=bV s.site) (cm:eh s v.key≠0) (hl:s.aH.length<80):bw {s with aq:=eE s.aq v,aH:=dV s.aH v.bH}:=by
 obtain⟨h1,h2,h3⟩:=sS hc
 have hp:=jE h1
 refine⟨h.site,h.aR,y9 h.aq h1 h2 h3,h.waits,I5 h.aH (by simp only[jA,Bool.and_eq_true];exact⟨hp.1,hp.2.1⟩) hl,h.bq,h.up,h.eD,fun x hx=>?_,h.mY,h.mZ,fun w hw x hx=>?_,fun d hd=>?_⟩
 ·rcases lr.1 hx with rfl|hx
  ·exact cm
  ·exact h.here x hx
 ·rcases lr.1 hx with rfl|hx
  ·intro e
   have:=h.mZ w hw
   have e2:w.aA=x.aA:=by have:=congrArg ar.aA e;exact this.symm
   rw[e2] at this;exact this hs
  ·exact h.apart w hw x hx
 ·rcases Q5.1 hd with rfl|hd
  ·exact⟨v,lr.2 (.inl rfl),rfl⟩
  ·exact IZ (h.m0 d hd)
theorem Rb {s:Server} {m:aD} (h:bw s) (hm:bN m=true):bw (gE s m).1:=by
 unfold gE
 split
 ·rename_i hc
  simp only[Bool.and_eq_true,decide_eq_true_eq] at hc
  split
  ·exact h
  ·split
   ·rename_i hk
    simp only[Bool.and_eq_true,decide_eq_true_eq] at hk
    obtain⟨a1,a2,a3⟩:=C0 h hm hk.1.1
    exact(h.put hk.1.2 (by rw[a1]) (by show eh s m.key≠0;rw[(zf hc.2).2];omega) hk.2).settle
   ·exact h
 ·exact h
theorem bw.wait {s:Server} (h:bw s) {v:aK} (hc:gV s.waits v=true) (hp:placeOf s.aq v.bH<0) (hf:bV v.aA.site≠bV s.site) (cm:eh s v.key≠0):bw {s with waits:=eE s.waits v}:=by
 have al:=h.ok.CS hc hp
 refine⟨h.site,h.aR,h.aq,al.waits,h.aH,h.bq,h.up,h.eD,h.here,fun x hx=>?_,fun x hx=>?_,fun x hx=>oK (al.apart x hx),h.m0⟩
 ·rcases lr.1 hx with rfl|hx
  ·exact cm
  ·exact h.mY x hx
 ·rcases lr.1 hx with rfl|hx
  ·exact hf
  ·exact h.mZ x hx
theorem zh {s:Server} {m:aD} (h:rn s m=true):cJ m.bc=true∧bV m.bc≠bV s.site∧m.aq.length=1∧eW s (ab m.aq 0).key=true∧bV (ab m.aq 0).aA.site≠bV s.site:=by
 unfold rn at h
 simp only[Bool.and_eq_true,decide_eq_true_eq,bne_iff_ne] at h
 exact⟨h.1.1.1.1,h.1.1.1.2,h.1.1.2,h.1.2,h.2⟩
theorem Rc {s:Server} {m:aD} (h:bw s):bw (gF s m).1:=by
 unfold gF
 split
 ·rename_i hr
  obtain⟨_,_,_,ho,hf⟩:=zh hr
  dsimp only
  split
  ·rename_i hn
   split
   ·rename_i hc
    exact(h.wait hc hn.1 hf (by rw[(zf ho).2];omega)).settle
   ·exact h
  ·exact h.settle
 ·exact h
theorem Rd {s:Server} {m:aD} (h:bw s):bw (mS s m):=by
 unfold mS
 split
 ·exact⟨h.site,h.aR,h.aq,h.waits,za h.aH (uy _ _),h.bq,h.up,h.eD,h.here,h.mY,h.mZ,h.apart,fun d hd=>h.m0 d (ze hd)⟩
 ·exact h
theorem bw.Re {s:Server} (h:bw s) {d:ar} (hd:jA d=true) (hl:s.bq.length<80) (hu:s.up=true):bw {s with bq:=dV s.bq d}:=
 ⟨h.site,h.aR,h.aq,h.waits,h.aH,I5 h.bq hd hl,(fun e=>by rw[hu] at e;cases e),h.eD,h.here,h.mY,h.mZ,h.apart,h.m0⟩
theorem Rf {s:Server} {d:ar}:gC s d=true↔∃v∈s.waits,d∈v.aS:=by
 unfold gC
 rw[Bool.not_eq_true',←Bool.not_eq_true,w3 (p:=fun v=>!nQ d v)]
 have e:∀v:aK,(!nQ d v)=true↔d∉v.aS:=fun v=>by
  unfold nQ
  rw[Bool.not_eq_true',decide_eq_false_iff_not,uC]
 constructor
 ·intro h
  apply Classical.byContradiction
  intro hn
  exact h fun x hx=>(e x).2 fun hd=>hn ⟨x,hx,hd⟩
 ·rintro⟨v,hv,hd⟩ h
  exact(e v).1 (h v hv) hd
theorem Rg {s:Server} {m:aD} (h:bw s) (hu:s.up=true):bw (mU s m):=by
 unfold mU
 split
 ·rename_i hc
  simp only[Bool.and_eq_true,decide_eq_true_eq] at hc
  obtain⟨v,hv,hd⟩:=Rf.1 hc.1.2
  exact(h.Re (CY (jE (gA h.waits v hv)).2.2 _ hd) hc.2 hu).settle
 ·exact h
theorem zi {s:Server} (h:bw s) {i:Nat} (hi:i<3):nD (ab s.aR i)=true:=h.eD _ (bx (by rw[h.aR];exact hi))
theorem Rh {s:Server} {m:aD} (h:bw s) (hm:bN m=true):bw (rp s m):=by
 have hs:=(mr hm).2.2.2.2.2.2.2.2
 refine(h.dX m.slot).I7 hs.1.1 ?_ (fun v hv e=>absurd e (I6.1 v hv)) (fun v hv e=>absurd e (I6.2 v hv)) (by omega)
 rw[sV]
 exact⟨hs.2.1.1,hs.2.1.2,by simp,by simp,fun e=>absurd rfl e⟩
theorem Ri {s:Server} {m:aD} (h:bw s) (hm:bN m=true):bw (mi s m):=by
 unfold mi
 split
 ·exact(Rh h hm).settle
 ·exact h
theorem Rj {s:Server} {m:aD} (h:bw s):bw (gp s m).1:=by
 unfold gp
 split
 ·split
  ·exact h
  ·split
   ·rename_i hc
    simp only[Bool.and_eq_true] at hc
    exact(iw.1 hc.2).settle
   ·exact h
 ·exact h
theorem C1 {s:Server} {m:aD} (h:bw s) (hm:bN m=true) (hu:s.up=true):bw (dY s m).1:=by
 unfold dY
 repeat' split
 ·exact Rb h hm
 ·exact h
 ·exact Rc h
 ·exact Rd h
 ·exact h
 ·exact Rg h hu
 ·exact Rj h
 ·exact Ri h hm
 ·exact h
theorem Rk {s:Server} {m:aD} (h:bw s):bw (eX s m).1:=by
 unfold eX
 split
 ·rename_i hc
  simp only[Bool.and_eq_true] at hc
  exact C1 h hc.1.2 hc.1.1
 ·exact h
theorem Rl {s:Server} (h:bw s):bw (nT s):=⟨h.site,h.aR,h.aq,h.waits,h.aH,h.bq,fun e=>(by cases e),h.eD,h.here,h.mY,h.mZ,h.apart,h.m0⟩
theorem Rm {s:Server} (h:bw s):bw (nS s):=⟨h.site,h.aR,h.aq,h.waits,h.aH,rfl,fun _=>rfl,h.eD,h.here,h.mY,h.mZ,h.apart,h.m0⟩
theorem w6 {s:Server} {slot:Int} (h:kR s slot=true):s.up=true∧0≤slot∧slot≤2∧(ab s.aR slot.toNat).er=1∧(ab s.aR slot.toNat).bO<9999:=by
 unfold kR aQ at h
 simp only[Bool.and_eq_true,decide_eq_true_eq] at h
 exact⟨h.1.1.1,h.1.1.2.1,h.1.1.2.2,by simpa using h.1.2,h.2⟩
theorem zj {s:Server} {slot:Int} (h:bw s) (hk:kR s slot=true):bw (ly s slot):=by
 obtain⟨_,h1,h2,h3,h4⟩:=w6 hk
 have hg:=sV.1 (zi h (i:=slot.toNat) (by omega))
 refine h.I7 h1 ?_ (fun v _ _=>by simp) (fun v _ _=>by simp) (by omega)
 rw[sV]
 exact⟨by simp;omega,by simp;omega,by simp,by simp,fun _=>by simp;omega⟩
theorem qm {m:aD} (h1:1≤m.kind∧m.kind≤10) (h2:j7 m.bc=true) (h3:j7 m.to=true) (h4:0≤m.call∧m.call≤99) (h5:cU m.key=true) (h6:jz m.aA=true) (h7:0≤m.val∧m.val≤9999) (h8:bT m.aS=true) (h9:0≤m.slot∧m.slot≤2)
 (zl:0≤m.bO∧m.bO≤9999) (xI:cg m.aq=true) (C2:cg m.waits=true) (Rn:fe m.aH=true):bN m=true:=by
 simp only[bN,Bool.and_eq_true,aQ,decide_eq_true_eq]
 exact⟨⟨⟨⟨⟨⟨⟨⟨⟨⟨⟨⟨h1,h2⟩,h3⟩,h4⟩,h5⟩,h6⟩,h7⟩,h8⟩,h9⟩,zl⟩,xI⟩,C2⟩,Rn⟩
theorem m5 {n:Int} (h:cJ n=true):j7 n=true:=by unfold j7;rw[h];rfl
theorem kS {n:Int}:cJ n=true↔0≤n∧n≤3:=by simp[cJ,aQ]
theorem I8 {n:Int} (h:cJ n=true):cJ (eG n)=true:=by
 rw[kS] at*
 unfold eG;split<;>omega
theorem m6:cg []=true:=rfl
theorem sW:fe []=true:=rfl
theorem Ro {v:aK} (h:et v=true):cg [v]=true:=sT.2 ⟨by simp,by simpa using h,by simp[VS]⟩
theorem I9 {o:Option aK} (h:∀v,o=some v→et v=true):cg o.toList=true:=by
 cases o with
 |none=>rfl
 |some v=>exact Ro (h v rfl)
theorem w7 {s:ct} (h:c6 s=true):jz s=true:=by unfold jz;rw[h];simp
theorem C3:cU 0=true:=rfl
theorem w8:jz ⟨0,0⟩=true:=rfl
theorem oN:bT []=true:=rfl
theorem Ja {s:Server} {m:aD} (h:bw s) (hm:bN m=true) {st:ct} (hs:c6 st=true):bN (kH s m st)=true:=by
 have p:=mr hm
 exact qm ⟨by simp[kH],by simp[kH]⟩ (m5 h.site) p.2.1 p.2.2.2.1 p.2.2.2.2.1 (w7 hs) ⟨by simp[kH,bP],by simp[kH,bP]⟩ oN ⟨by simp[kH,bP],by simp[kH,bP]⟩ ⟨by simp[kH,bP],by simp[kH,bP]⟩ m6 m6 sW
theorem Rp {s:Server} {key aC call:Int} {v:aK} (h:jF s key aC call=some v):v∈s.aq∧v.key=key∧v.aC=aC∧v.call=call∧bV v.aA.site=bV s.site:=by
 have h1:=List.mem_of_find?_eq_some h
 have h2:=List.find?_some h
 simp only[nR,Bool.and_eq_true,beq_iff_eq] at h2
 exact⟨h1,h2.1.1.1,h2.1.1.2,h2.1.2,h2.2⟩
theorem Rq {s:Server} {m:aD} (h:bw s) (hm:bN m=true):∀w∈(gE s m).2,bN w=true:=by
 unfold gE
 split
 ·split
  ·rename_i v hv
   intro w hw
   obtain rfl:w=_:=by simpa using hw
   exact Ja h hm (jE (gA h.aq v (Rp hv).1)).2.1
  ·split
   ·rename_i hk
    simp only[Bool.and_eq_true,decide_eq_true_eq] at hk
    intro w hw
    obtain rfl:w=_:=by simpa using hw
    exact Ja h hm (C0 h hm hk.1.1).2.1
   ·intro w hw;simp at hw
 ·intro w hw;simp at hw
theorem Jb {s:Server} {m:aD} (h:bw s) (hm:bN m=true) {o:Option aK} (ho:∀v,o=some v→et v=true):bN (kJ s m o)=true:=by
 have p:=mr hm
 exact qm ⟨by simp[kJ],by simp[kJ]⟩ (m5 h.site) p.2.1 p.2.2.2.1 p.2.2.2.2.1 p.2.2.2.2.2.1 ⟨by simp[kJ,bP],by simp[kJ,bP]⟩ oN ⟨by simp[kJ,bP],by simp[kJ,bP]⟩ ⟨by simp[kJ,bP],by simp[kJ,bP]⟩ (I9 ho) m6 sW
theorem Jc {l:List aK} {d:ar} {v:aK} (h:iF l d=some v):v∈l∧v.bH=d:=by
 unfold iF at h
 split at h
 ·rename_i hp
  obtain⟨h1,h2⟩:=wH hp
  cases h
  exact⟨bx h1,h2⟩
 ·cases h
theorem Rr {s:Server} {m:aD} (h:bw s) (hm:bN m=true):∀w∈gW s m,bN w=true:=by
 unfold gW
 split
 ·split
  ·intro w hw
   obtain rfl:w=_:=by simpa using hw
   exact Jb h hm fun v hv=>gA h.aq v (CD hv).1
  ·split
   ·rename_i v hv
    intro w hw
    obtain rfl:w=_:=by simpa using hw
    exact Jb h hm fun u hu=>by cases hu;exact gA h.aq v (Jc hv).1
   ·intro w hw;simp at hw
 ·intro w hw;simp at hw
theorem Jd {s:Server} {m:aD} (h:bw s) (hm:bN m=true) {v:aK} (hv:et v=true):bN (kK s m v)=true:=by
 have p:=mr hm
 have q:=jE hv
 exact qm ⟨by simp[kK],by simp[kK]⟩ (m5 h.site) p.2.1 ⟨by simp[kK,bP],by simp[kK,bP]⟩ q.1 (w7 q.2.1) ⟨by simp[kK,bP],by simp[kK,bP]⟩ oN ⟨by simp[kK,bP],by simp[kK,bP]⟩ ⟨by simp[kK,bP],by simp[kK,bP]⟩ m6 m6 sW
theorem Rs {s:Server} {m:aD} (h:bw s) (hm:bN m=true):∀w∈(gF s m).2,bN w=true:=by
 unfold gF
 split
 ·rename_i hr
  have hv:et (ab m.aq 0)=true:=gA (mo hm).1 _ (bx (by rw[(zh hr).2.2.1];omega))
  dsimp only
  split
  ·split
   ·intro w hw
    obtain rfl:w=_:=by simpa using hw
    exact Jd h hm hv
   ·intro w hw;simp at hw
  ·intro w hw
   obtain rfl:w=_:=by simpa using hw
   exact Jd h hm hv
 ·intro w hw;simp at hw
theorem Rt {s:Server} {m:aD} (h:bw s) (hm:bN m=true):∀w∈mT s m,bN w=true:=by
 have p:=mr hm
 unfold mT
 split
 ·intro w hw
  obtain rfl:w=_:=by simpa using hw
  exact qm ⟨by simp[kO],by simp[kO]⟩ (m5 h.site) p.2.1 ⟨by simp[kO,bP],by simp[kO,bP]⟩ p.2.2.2.2.1 p.2.2.2.2.2.1 ⟨by simp[kO,bP],by simp[kO,bP]⟩ oN ⟨by simp[kO,bP],by simp[kO,bP]⟩ ⟨by simp[kO,bP],by simp[kO,bP]⟩ m6 m6 sW
 ·intro w hw;simp at hw
theorem Je {s:Server} {m:aD} (h:bw s) (hm:bN m=true):bN (mh s m)=true:=by
 have p:=mr hm
 exact qm ⟨by simp[mh],by simp[mh]⟩ (m5 h.site) p.2.1 ⟨by simp[mh,bP],by simp[mh,bP]⟩ C3 w8 ⟨by simp[mh,bP],by simp[mh,bP]⟩ oN p.2.2.2.2.2.2.2.2.1 p.2.2.2.2.2.2.2.2.2.1 m6 m6 sW
theorem Ru {s:Server} {m:aD} (h:bw s) (hm:bN m=true):∀w∈(gp s m).2,bN w=true:=by
 unfold gp
 split
 ·split
  ·intro w hw
   obtain rfl:w=_:=by simpa using hw
   exact Je h hm
  ·split
   ·intro w hw
    obtain rfl:w=_:=by simpa using hw
    exact Je h hm
   ·intro w hw;simp at hw
 ·intro w hw;simp at hw
theorem C4 {s:Server} {m:aD} (h:bw s) (hm:bN m=true):∀w∈(dY s m).2,bN w=true:=by
 unfold dY
 repeat' split
 ·exact Rq h hm
 ·exact Rr h hm
 ·exact Rs h hm
 ·intro w hw;simp at hw
 ·exact Rt h hm
 ·intro w hw;simp at hw
 ·exact Ru h hm
 ·intro w hw;simp at hw
 ·intro w hw;simp at hw
theorem Rv {s:Server} {m:aD} (h:bw s):∀w∈(eX s m).2,bN w=true:=by
 unfold eX
 split
 ·rename_i hc
  simp only[Bool.and_eq_true] at hc
  exact C4 h hc.1.2
 ·intro w hw;simp at hw
theorem Rw {s:Server} (h:bw s) {i:Nat} (hi:i<3):0≤(ab s.aR i).bO∧(ab s.aR i).bO≤9999:=by
 have:=sV.1 (zi h hi);exact⟨this.1,this.2.1⟩
theorem C5 {s:Server} (h:bw s) {slot:Int} (h0:0≤slot) (h2:slot≤2):bN (fg s slot)=true:=by
 have hr:=Rw h (i:=slot.toNat) (by omega)
 exact qm ⟨by simp[fg],by simp[fg]⟩ (m5 h.site) (m5 (I8 h.site)) ⟨by simp[fg,bP],by simp[fg,bP]⟩ C3 w8 ⟨by simp[fg,bP],by simp[fg,bP]⟩ oN ⟨h0,h2⟩ hr (wZ h.aq List.filter_sublist) (wZ h.waits List.filter_sublist) (za h.aH List.filter_sublist)
theorem C6 {n:Int} (h:cJ n=true):bV n=n/2∧0≤bV n∧bV n≤1:=by
 have h1:=kS.1 h
 unfold bV
 rw[h,if_pos rfl]
 omega
theorem Rx {s:Server} (h:bw s) {d:ar}:∀w∈jf s d,bN w=true:=by
 have hs:=C6 h.site
 have key:∀k:Int,0≤k→k≤1→bN {bP with kind:=5,bc:=s.site,to:=2-2*bV s.site+k,aq:=(iF s.aq d).toList}=true:=fun k h1 h2=>
  qm ⟨by simp,by simp⟩ (m5 h.site) (m5 (kS.2 ⟨by simp;omega,by simp;omega⟩)) ⟨by simp[bP],by simp[bP]⟩ C3 w8 ⟨by simp[bP],by simp[bP]⟩ oN ⟨by simp[bP],by simp[bP]⟩ ⟨by simp[bP],by simp[bP]⟩ (I9 fun v hv=>gA h.aq v (Jc hv).1) m6 sW
 unfold jf
 split
 ·intro w hw
  rcases List.mem_cons.1 hw with rfl|hw
  ·have:=key 0 (by omega) (by omega);rwa[Int.add_zero] at this
  ·obtain rfl:w=_:=by simpa using hw
   exact key 1 (by omega) (by omega)
 ·intro w hw;simp at hw
theorem Ry {s:Server} (h:bw s) {d:ar} (hd:jA d=true):bN (kf s d)=true:=by
 simp only[jA,Bool.and_eq_true] at hd
 exact qm ⟨by simp[kf],by simp[kf]⟩ (m5 h.site) (m5 (I8 h.site)) ⟨by simp[kf,bP],by simp[kf,bP]⟩ hd.1 (w7 hd.2) ⟨by simp[kf,bP],by simp[kf,bP]⟩ oN ⟨by simp[kf,bP],by simp[kf,bP]⟩ ⟨by simp[kf,bP],by simp[kf,bP]⟩ m6 m6 sW
theorem Rz {s:Server} {asked:List ar} {d x:ar} (h:x∈kQ s asked d):x∈asked∨x=d:=by
 unfold kQ at h
 split at h
 ·exact .inl h
 ·rcases List.mem_append.1 h with h|h
  ·exact .inl h
  ·exact .inr (by simpa using h)
theorem Jf {s:Server}:∀{l asked:List ar} {x:ar},x∈l.foldl (kQ s) asked→x∈asked∨x∈l
 |[],_,_,h=>.inl h
 |d::r,asked,x,h=>by
  rcases Jf (l:=r) h with h|h
  ·rcases Rz h with h|h
   ·exact .inl h
   ·exact .inr (by simp[h])
  ·exact .inr (by simp[h])
theorem RA {s:Server} (h:bw s):∀d∈sP s,jA d=true:=by
 intro d hd
 rcases Jf hd with hd|hd
 ·simp at hd
 ·obtain⟨ds,h1,h2⟩:=List.mem_flatten.1 hd
  obtain⟨v,hv,rfl⟩:=List.mem_map.1 h1
  exact CY (jE (gA h.waits v hv)).2.2 d h2
theorem RB {s:Server} (h:bw s) {i:Nat} (hi:i∈leaving s):i<3:=by
 have:=List.mem_range.1 (ql hi)
 rw[h.aR] at this;exact this
theorem C7 {s:Server} (h:bw s):∀w∈js s,bN w=true:=by
 unfold js
 split
 ·intro w hw
  rcases List.mem_append.1 hw with hw|hw
  ·rcases List.mem_append.1 hw with hw|hw
   ·obtain⟨i,hi,rfl⟩:=List.mem_map.1 hw
    have:=RB h hi
    exact C5 h (by omega) (by omega)
   ·obtain⟨ws,h1,h2⟩:=List.mem_flatten.1 hw
    obtain⟨d,_,rfl⟩:=List.mem_map.1 h1
    exact Rx h w h2
  ·obtain⟨d,hd,rfl⟩:=List.mem_map.1 hw
   exact Ry h (RA h d hd)
 ·intro w hw;simp at hw
theorem sX {m:aD} (h:bN m=true):iV m:=by
 have p:=mr h
 refine⟨by have:=gm p.2.2.2.2.2.2.2.1;omega,ru p.2.2.2.2.2.2.2.2.2.2.1,ru p.2.2.2.2.2.2.2.2.2.2.2.1,by have:=gB p.2.2.2.2.2.2.2.2.2.2.2.2;omega⟩
theorem bw.small {s:Server} (h:bw s):oL s:=h.ok.small (by have:=gB h.aH;omega)
theorem ry {m:aD} (h:bN m=true):0≤m.bc∧m.bc≤11∧0≤m.to∧m.to≤11:=by
 have p:=mr h
 have h1:=p.2.1
 have h2:=p.2.2.1
 simp only[j7,cJ,aQ,Bool.or_eq_true,Bool.and_eq_true,decide_eq_true_eq] at h1 h2
 omega
def qn (c:Call) (d:ar):Bool:=decide (0≤cz c d.key)&&l8 (ab c.ax (cz c d.key).toNat) d.aA
structure dK (q:Call) (t:Int):Prop where
 aC:eC q.aC=true
 num:1≤q.num∧q.num≤99
 keys:gQ q=true
 val:0≤q.val∧q.val≤9999
 ctx:bT q.ctx=true
 aM:bT q.aM=true
 bm:1≤q.bm∧q.bm≤t
 fits:jz q.aA=true
 has:∀a∈q.ax,fQ q.keys a.key=true
 sorted:q.ax.Pairwise fun a b=>fm a b=true
 eD:∀a∈q.ax,dE a=true
 uD:∀d∈q.aM,qn q d=true
 full:q.aM=[]∨q.ax.length=q.keys.length
 put:q.kind=1→q.ax=[]∧q.aM=[]
 read:q.kind≠1→q.val=0∧dR q.aA=true
 open_:q.end_=0→dR q.aA=true
 ended:q.end_≠0→q.over=false∧(q.bm+1≤q.end_∧q.end_≤t)∧q.aM=[]∧(q.kind=1→dR q.aA=false)∧(q.kind≠1→q.ax.length=q.keys.length)
theorem RC {a b d:Answer} (h:fm a b=true) (h':fm b d=true):fm a d=true:=by
 unfold fm at*;rw[decide_eq_true_eq] at*;omega
theorem Jg {q:Call}:lq q=true↔(∀a∈q.ax,fQ q.keys a.key=true)∧(q.ax.Pairwise fun a b=>fm a b=true)∧∀a∈q.ax,dE a=true:=by
 unfold lq
 rw[iy]
 have h1:=CO (eD:=fun a:Answer=>fQ q.keys a.key) (less:=fm) (fun h1 h2=>RC h1 h2) (l:=q.ax)
 rw[iy] at h1
 unfold mP
 constructor
 ·intro h
  have h2:=h1.1 fun i hi=>(Bool.and_eq_true _ _▸h i hi:_∧_).1
  refine⟨h2.1,h2.2,fun a ha=>?_⟩
  obtain⟨k,hk,rfl⟩:=hO ha
  exact(Bool.and_eq_true _ _▸h k hk:_∧_).2
 ·rintro⟨a1,a2,a3⟩ i hi
  rw[Bool.and_eq_true]
  exact⟨h1.2 ⟨a1,a2⟩ i hi,a3 _ (bx hi)⟩
theorem oO {q:Call} {t:Int}:eL q t=true↔dK q t:=by
 have e1:(cO q.aM.length (nH q))=true↔∀d∈q.aM,qn q d=true:=by
  have e:nH q=fun i=>qn q (ab q.aM i):=by funext i;rfl
  rw[e];exact w3
 have e2:(((q.aM.length:Int)==0)||mQ q)=true↔q.aM=[]∨q.ax.length=q.keys.length:=by
  unfold mQ
  rw[Bool.or_eq_true,beq_iff_eq,beq_iff_eq]
  constructor
  ·rintro(h|h)
   ·exact .inl (List.length_eq_zero_iff.1 (by omega))
   ·exact .inr (by omega)
  ·rintro(h|h)
   ·exact .inl (by rw[h];rfl)
   ·exact .inr (by omega)
 have e3:ud q=true↔(q.kind=1→q.ax=[]∧q.aM=[])∧(q.kind≠1→q.val=0∧dR q.aA=true):=by
  unfold ud
  rw[HP]
  by_cases hk:q.kind=1
  ·simp[hk]
  ·simp[hk]
 have e4:l9 q t=true↔(q.end_=0→dR q.aA=true)∧(q.end_≠0→q.over=false∧(q.bm+1≤q.end_∧q.end_≤t)∧q.aM=[]∧(q.kind=1→dR q.aA=false)∧(q.kind≠1→q.ax.length=q.keys.length)):=by
  unfold l9
  by_cases he:q.end_=0
  ·simp[he]
  ·rw[if_neg he,HO]
   unfold mQ aQ
   by_cases hk:q.kind=1
   ·simp[hk,he,and_assoc]
   ·simp[hk,he,and_assoc];omega
 unfold eL ka mR
 simp only[Bool.and_eq_true]
 rw[Jg,e1,e2,e3,e4]
 constructor
 ·rintro⟨⟨⟨⟨⟨⟨⟨⟨⟨⟨a1,a2⟩,a3⟩,a4⟩,a5⟩,a6⟩,a7⟩,a8⟩,⟨⟨a9,sU,w4⟩,CW⟩,CX⟩,RD,RE⟩,RF,RG⟩
  simp only[aQ,Bool.and_eq_true,decide_eq_true_eq] at a2 a4 a7
  exact⟨a1,a2,a3,a4,a5,a6,a7,a8,a9,sU,w4,CW,CX,RD,RE,RF,RG⟩
 ·intro h
  simp only[aQ,Bool.and_eq_true,decide_eq_true_eq]
  exact⟨⟨⟨⟨⟨⟨⟨⟨⟨⟨h.aC,h.num⟩,h.keys⟩,h.val⟩,h.ctx⟩,h.aM⟩,h.bm⟩,h.fits⟩,⟨⟨h.has,h.sorted,h.eD⟩,h.uD⟩,h.full⟩,h.put,h.read⟩,h.open_,h.ended⟩
theorem zm {q:Call} {key:Int}:0≤cz q key↔∃a∈q.ax,a.key=key:=by
 have:=CT (p:=p5 key) (l:=q.ax)
 unfold hasB at this
 rw[decide_eq_true_eq] at this
 unfold cz
 rw[this]
 simp[p5]
theorem uE {q:Call} {key:Int} (h:0≤cz q key):(cz q key).toNat<q.ax.length∧(ab q.ax (cz q key).toNat).key=key:=by
 refine⟨ra h,?_⟩
 unfold cz dm at*
 split at h
 ·rename_i k hk
  obtain⟨h1,h2,_⟩:=List.findIdx?_eq_some_iff_getElem.1 hk
  simpa[ab,h1,p5] using h2
 ·omega
theorem RH {l:List Answer} (h:l.Pairwise fun a b=>fm a b=true) {i j:Nat} (hi:i<l.length) (hj:j<l.length) (he:(ab l i).key=(ab l j).key):i=j:=by
 rcases Nat.lt_trichotomy i j with bJ|h'|bJ
 ·have:=wY h bJ hj
  unfold fm at this;rw[decide_eq_true_eq] at this;omega
 ·exact h'
 ·have:=wY h bJ hi
  unfold fm at this;rw[decide_eq_true_eq] at this;omega
theorem RI {q:Call} (h:q.ax.Pairwise fun a b=>fm a b=true) {i:Nat} (hi:i<q.ax.length):cz q (ab q.ax i).key=i:=by
 have h0:0≤cz q (ab q.ax i).key:=zm.2 ⟨_,bx hi,rfl⟩
 obtain⟨h1,h2⟩:=uE h0
 have:=RH h h1 hi h2
 omega
theorem C8 {q:Call} (h:q.ax.Pairwise fun a b=>fm a b=true) {d:ar}:qn q d=true↔∃a∈q.ax,a.key=d.key∧l8 a d.aA=true:=by
 unfold qn
 rw[Bool.and_eq_true,decide_eq_true_eq]
 constructor
 ·rintro⟨h1,h2⟩
  exact⟨_,bx (uE h1).1,(uE h1).2,h2⟩
 ·rintro⟨a,ha,hk,ho⟩
  obtain⟨i,hi,rfl⟩:=hO ha
  have e:=RI h hi
  rw[hk] at e
  rw[e]
  exact⟨by omega,ho⟩
theorem rz:∀{l:List Answer} {a x:Answer},x∈c7 l a↔x=a∨x∈l
 |[],a,x=>by simp[c7]
 |e::r,a,x=>by
  unfold c7
  split
  ·simp
  ·rw[List.mem_cons,rz,List.mem_cons]
   constructor
   ·rintro(h|h|h)<;>simp[h]
   ·rintro(h|h|h)<;>simp[h]
theorem sY:∀(l:List Answer) (a:Answer),(c7 l a).length=l.length+1
 |[],a=>rfl
 |e::r,a=>by unfold c7;split<;>simp[sY r a]
theorem C9:∀{l:List Answer} {a:Answer},(l.Pairwise fun a b=>fm a b=true)→(∀x∈l,x.key≠a.key)→(c7 l a).Pairwise fun a b=>fm a b=true
 |[],a,_,_=>by simp[c7]
 |e::r,a,h,hn=>by
  unfold c7
  rw[List.pairwise_cons] at h
  have he:=hn e (by simp)
  split
  ·rename_i hl
   rw[List.pairwise_cons]
   refine⟨fun x hx=>?_,List.pairwise_cons.2 h⟩
   rcases List.mem_cons.1 hx with rfl|hx
   ·unfold fm;rw[decide_eq_true_eq];exact hl
   ·have:=h.1 x hx;unfold fm at*;rw[decide_eq_true_eq] at*;omega
  ·rename_i hl
   rw[List.pairwise_cons]
   refine⟨fun x hx=>?_,C9 h.2 fun x hx=>hn x (by simp[hx])⟩
   rcases rz.1 hx with rfl|hx
   ·unfold fm;rw[decide_eq_true_eq];omega
   ·exact h.1 x hx
theorem sZ {q:Call} (h:gG q=true):q.end_=0∧q.over=false:=by
 unfold gG at h;simpa using h
theorem dK.later {q:Call} {t t':Int} (h:dK q t) (ht:t≤t'):dK q t':=oO.1 (Qb (oO.2 h) ht)
theorem RJ {q:Call} {t:Int} (h:dK q t):∀m∈asks q,(m.kind=1∨m.kind=3)∧cU m.key=true∧jz m.aA=true∧(0≤m.val∧m.val≤9999)∧bT m.aS=true∧m.slot=0∧m.bO=0∧m.aq=[]∧m.waits=[]∧m.aH=[]:=by
 have hk:jr q.keys=true:=by have:=h.keys;simp only[gQ,Bool.and_eq_true] at this;exact this.1
 unfold asks
 split
 ·intro m hm
  obtain rfl:m=_:=by simpa using hm
  have h1:q.keys.length=1:=by
   have:=h.keys;rename_i e;simp[gQ,e] at this;omega
  exact⟨.inl rfl,ue hk (bx (by omega)),w8,h.val,h.ctx,rfl,rfl,rfl,rfl,rfl⟩
 ·intro m hm
  rcases List.mem_append.1 hm with hm|hm
  ·obtain⟨k,RL,rfl⟩:=List.mem_map.1 hm
   exact⟨.inr rfl,ue hk (ql RL),w8,⟨by simp[bP],by simp[bP]⟩,oN,rfl,rfl,rfl,rfl,rfl⟩
  ·obtain⟨d,hd,rfl⟩:=List.mem_map.1 hm
   have:=nG h.aM hd
   simp only[jq,Bool.and_eq_true] at this
   exact⟨.inr rfl,this.1,w7 this.2,⟨by simp[bP],by simp[bP]⟩,oN,rfl,rfl,rfl,rfl,rfl⟩
theorem qp {n:Int}:eC n=true↔0≤n∧n≤1:=by simp[eC,aQ]
theorem RM {n:Int} (h:eC n=true):j7 (10+n)=true:=by
 rw[qp] at h
 unfold j7 aQ
 simp;right;omega
theorem Jh {q:Call} {t:Int} (h:dK q t):∀m∈iv q,bN m=true:=by
 unfold iv
 split
 ·intro m hm
  obtain⟨ws,h1,h2⟩:=List.mem_flatten.1 hm
  obtain⟨x,hx,rfl⟩:=List.mem_map.1 h1
  obtain⟨a1,a2,a3,a4,a5,a6,a7,a8,a9,sU⟩:=RJ h x hx
  have hc:=qp.1 h.aC
  have key:∀n:Int,cJ n=true→bN {x with bc:=10+q.aC,to:=n,call:=q.num}=true:=fun n hn=>
   qm (by show 1≤x.kind∧x.kind≤10;omega) (RM h.aC) (m5 hn) ⟨by have:=h.num;show 0≤q.num;omega,h.num.2⟩ a2 a3 a4 a5 (by show 0≤x.slot∧x.slot≤2;omega) (by show 0≤x.bO∧x.bO≤9999;omega)
    (by show cg x.aq=true;rw[a8];rfl) (by show cg x.waits=true;rw[a9];rfl) (by show fe x.aH=true;rw[sU];rfl)
  unfold iH at h2
  rcases List.mem_cons.1 h2 with rfl|h2
  ·exact key _ (kS.2 (by omega))
  ·obtain rfl:m=_:=by simpa using h2
   exact key _ (kS.2 (by omega))
 ·intro m hm;simp at hm
theorem RN {a:Answer} (h:dE a=true):cY a.bG.aA fW=false:=by
 cases hy:a.yes
 ·rw[yH h hy];rfl
 ·exact P0 (rb (jE (ri h hy).1).2.1)
theorem Da (qi:List ar) (hs:∀key,p8 (bY qi key)):∀{l:List Answer} {last:Int},(l.Pairwise fun a b=>fm a b=true)→(∀a∈l,last<a.key∧a.key≤5)→(∀a∈l,dE a=true)→db last (l.map (mj qi)).flatten=true
 |[],_,_,_,_=>rfl
 |a::r,last,hp,hk,hg=>by
  rw[List.pairwise_cons] at hp
  rw[List.map_cons,List.flatten_cons]
  have ha:=hk a (by simp)
  have pR:∀x∈r,dE x=true:=fun x hx=>hg x (by simp[hx])
  unfold mj
  split
  ·rename_i hl
   have cH:c6 (bY qi a.key)=true:=by
    rcases hs a.key with e|e
    ·rw[e,RN (hg a (by simp))] at hl;cases hl
    ·exact e
   show(aQ a.key (last+1) 5&&c6 (bY qi a.key)&&db a.key _)=true
   rw[cH,show aQ a.key (last+1) 5=true by simp[aQ];omega,Bool.true_and,Bool.true_and]
   exact Da qi hs hp.2 (fun x hx=>⟨by have:=hp.1 x hx;unfold fm at this;rwa[decide_eq_true_eq] at this,(hk x (by simp[hx])).2⟩) pR
  ·rw[List.nil_append]
   exact Da qi hs hp.2 (fun x hx=>hk x (by simp[hx])) pR
theorem RO {q:Call} {d:ar} (h:d∈jV q):∃a∈q.ax,d=⟨a.key,bY (ez q) a.key⟩∧cY a.bG.aA d.aA=true:=by
 unfold jV at h
 obtain⟨ds,h1,h2⟩:=List.mem_flatten.1 h
 obtain⟨a,ha,rfl⟩:=List.mem_map.1 h1
 unfold mj at h2
 split at h2
 ·rename_i hl
  obtain rfl:d=_:=by simpa using h2
  exact⟨a,ha,rfl,hl⟩
 ·simp at h2
theorem RP {q:Call} {t:Int} (h:dK q t) {key:Int} (hk:fQ q.keys key=true):0≤key∧key≤5:=by
 have hu:jr q.keys=true:=by have:=h.keys;simp only[gQ,Bool.and_eq_true] at this;exact this.1
 exact HB.1 (ue hu (wo.1 hk))
theorem Db {q:Call} {t:Int} (h:dK q t) {key:Int} (hk:fQ q.keys key=true) (hn:cz q key<0):q.aM=[]∧q.ax.length<q.keys.length:=by
 have hu:jr q.keys=true:=by have:=h.keys;simp only[gQ,Bool.and_eq_true] at this;exact this.1
 have bJ:q.ax.length<q.keys.length:=by
  apply Nat.lt_of_not_le
  intro hle
  have bn:∀a∈q.ax,a.key≠key:=fun a ha e=>by
   have:=zm (q:=q) (key:=key).2 ⟨a,ha,e⟩;omega
  have hs:((c7 q.ax {(default:Answer) with key:=key}).map Answer.key).Pairwise (·<·):=by
   rw[List.pairwise_map]
   refine(C9 h.sorted fun x hx=>bn x hx).imp fun hl=>?_
   unfold fm at hl;rwa[decide_eq_true_eq] at hl
  have:=yz (HM hu) hs fun a ha=>by
   rcases rz.1 ha with rfl|ha
   ·exact wo.1 hk
   ·exact wo.1 (h.has a ha)
  rw[sY] at this
  omega
 exact⟨h.full.resolve_right (by omega),bJ⟩
theorem dK.lz {q:Call} {t:Int} (h:dK q t) (hw:gG q=true) (hb:q.bm<t) (hk:q.kind≠1) {a:Answer} (ha:dE a=true) (iB:fQ q.keys a.key=true) (hn:cz q a.key<0):dK (lz q a t) t:=by
 obtain⟨he,ho⟩:=sZ hw
 obtain⟨rA,bJ⟩:=Db h iB hn
 have bn:∀x∈q.ax,x.key≠a.key:=fun x hx e=>by
  have:=zm (q:=q) (key:=a.key).2 ⟨x,hx,e⟩;omega
 have cm:dR q.aA=true:=h.open_ he
 have rB:∀x∈c7 q.ax a,dE x=true:=fun x hx=>by
  rcases rz.1 hx with rfl|hx
  ·exact ha
  ·exact h.eD x hx
 have s0:∀x∈c7 q.ax a,fQ q.keys x.key=true:=fun x hx=>by
  rcases rz.1 hx with rfl|hx
  ·exact iB
  ·exact h.has x hx
 have qt:=C9 h.sorted bn
 have h1:dK {q with ax:=c7 q.ax a} t:=
  ⟨h.aC,h.num,h.keys,h.val,h.ctx,h.aM,h.bm,h.fits,s0,qt,rB,fun d hd=>by have:d∈q.aM:=hd;rw[rA] at this;simp at this,.inl rA,fun e=>absurd e hk,h.read,h.open_,fun e=>absurd he e⟩
 unfold Go.Proofs.YtoeioeimmfpefaaGreat.lz
 dsimp only
 split
 ·exact h1
 ·rename_i hlen
  have hl:(c7 q.ax a).length=q.keys.length:=by rw[sY];have:¬(c7 q.ax a).length<q.keys.length:=hlen;rw[sY] at this;omega
  have yJ:∀key,p8 (bY (ez {q with ax:=c7 q.ax a}) key):=fun key=>by
   have:=(qd (l:=c7 q.ax a) (acc:=[]) rfl rB)
   exact p7 this.1 key
  have cD:bT (jV {q with ax:=c7 q.ax a})=true:=Da _ yJ qt (fun x hx=>by have:=RP h (s0 x hx);omega) rB
  have zn:∀d∈jV {q with ax:=c7 q.ax a},qn {q with ax:=c7 q.ax a} d=true:=fun d hd=>by
   obtain⟨x,hx,e,RQ⟩:=RO hd
   refine(C8 qt).2 ⟨x,hx,by rw[e],?_⟩
   unfold l8;rw[RQ];simp
  unfold jW
  split
  ·rename_i h0
   have h0:q.aM++jV {q with ax:=c7 q.ax a}=[]:=h0
   exact⟨h.aC,h.num,h.keys,h.val,h.ctx,by show bT (q.aM++_)=true;rw[h0];rfl,h.bm,h.fits,s0,qt,rB,fun d hd=>by have:d∈q.aM++_:=hd;rw[h0] at this;simp at this,.inl h0,fun e=>absurd e hk,h.read,fun _=>cm,
    fun _=>⟨ho,⟨by show q.bm+1≤t;omega,Int.le_refl _⟩,h0,fun e=>absurd e hk,fun _=>hl⟩⟩
  ·exact⟨h.aC,h.num,h.keys,h.val,h.ctx,by show bT (q.aM++_)=true;rw[rA];exact cD,h.bm,h.fits,s0,qt,rB,fun d hd=>zn d (by have:d∈q.aM++_:=hd;rwa[rA] at this),.inr hl,fun e=>absurd e hk,h.read,h.open_,fun e=>absurd he e⟩
theorem uF {α:Type} [Inhabited α] {l:List α} {i:Nat} {a x:α} (h:x∈l.set i a):x=a∨∃k,k<l.length∧k≠i∧x=ab l k:=by
 obtain⟨k,hk,rfl⟩:=List.getElem_of_mem h
 rw[List.length_set] at hk
 by_cases e:i=k
 ·subst e;left;simp
 ·right;refine⟨k,hk,fun e'=>e e'.symm,?_⟩
  rw[List.getElem_set_ne e];simp[ab,hk]
theorem RR {α:Type} [Inhabited α] {l:List α} {i k:Nat} {a:α} (h:k<l.length) (bn:k≠i):ab l k∈l.set i a:=by
 rw[List.mem_iff_getElem];refine⟨k,by simpa using h,?_⟩
 rw[List.getElem_set_ne (fun e=>bn e.symm)];simp[ab,h]
theorem Ji {l:List ar} (h:bT l=true) {a b:ar} (ha:a∈l) (hb:b∈l) (he:a.key=b.key):a=b:=by
 obtain⟨i,hi,rfl⟩:=hO ha
 obtain⟨j,hj,rfl⟩:=hO hb
 rcases Nat.lt_trichotomy i j with bJ|rfl|bJ
 ·have:=wm h bJ hj;omega
 ·rfl
 ·have:=wm h bJ hi;omega
theorem Jj (p:ar→Bool):∀{l:List ar} {last:Int},db last l=true→db last (l.filter p)=true
 |[],_,_=>rfl
 |d::r,last,h=>by
  simp only[db,Bool.and_eq_true] at h
  have ih:=Jj p h.2
  have hd:=h.1.1
  simp only[aQ,Bool.and_eq_true,decide_eq_true_eq] at hd
  by_cases hp:p d=true
  ·rw[List.filter_cons_of_pos hp]
   simp only[db,Bool.and_eq_true]
   exact⟨h.1,ih⟩
  ·rw[List.filter_cons_of_neg hp]
   cases hr:r.filter p with
   |nil=>rfl
   |cons e r'=>
    rw[hr] at ih
    simp only[db,Bool.and_eq_true,aQ,decide_eq_true_eq] at ih⊢
    exact⟨⟨⟨by omega,ih.1.1.2⟩,ih.1.2⟩,ih.2⟩
theorem dK.ml {q:Call} {t:Int} (h:dK q t) (hw:gG q=true) (hb:q.bm<t) (hk:q.kind≠1) {a:Answer} (ha:dE a=true) (hy:a.yes=true):dK (ml q a t) t:=by
 obtain⟨he,ho⟩:=sZ hw
 have cm:dR q.aA=true:=h.open_ he
 unfold Go.Proofs.YtoeioeimmfpefaaGreat.ml
 split
 ·rename_i hm
  have xY:=(wz ha hy).2
  have Dc:=h.uD _ hm
  have h0:0≤cz q a.key:=by
   unfold qn at Dc;rw[Bool.and_eq_true,decide_eq_true_eq,xY] at Dc;exact Dc.1
  obtain⟨h1,h2⟩:=uE h0
  have hlen:(q.ax.set (cz q a.key).toNat a).length=q.ax.length:=List.length_set ..
  have Jk:q.ax.length=q.keys.length:=h.full.resolve_left fun e=>by rw[e] at hm;simp at hm
  have rB:∀x∈q.ax.set (cz q a.key).toNat a,dE x=true:=fun x hx=>by
   rcases uF hx with rfl|⟨k,ec,_,rfl⟩
   ·exact ha
   ·exact h.eD _ (bx ec)
  have s0:∀x∈q.ax.set (cz q a.key).toNat a,fQ q.keys x.key=true:=fun x hx=>by
   rcases uF hx with rfl|⟨k,ec,_,rfl⟩
   ·have:=h.has _ (bx h1);rwa[h2] at this
   ·exact h.has _ (bx ec)
  have RS:(q.ax.set (cz q a.key).toNat a).map Answer.key=q.ax.map Answer.key:=by
   rw[List.map_set]
   apply List.ext_getElem
   ·simp
   ·intro n RT xy
    by_cases e:(cz q a.key).toNat=n
    ·subst e;rw[List.getElem_set_self,List.getElem_map];exact h2.symm.trans (by simp[ab,h1])
    ·rw[List.getElem_set_ne e]
  have qt:(q.ax.set (cz q a.key).toNat a).Pairwise fun a b=>fm a b=true:=by
   have e:∀l:List Answer,(l.Pairwise fun a b=>fm a b=true)↔(l.map Answer.key).Pairwise (·<·):=fun l=>by
    rw[List.pairwise_map]
    constructor<;>intro hh<;>refine hh.imp fun hl=>?_
    ·unfold fm at hl;rwa[decide_eq_true_eq] at hl
    ·unfold fm;rwa[decide_eq_true_eq]
   rw[e,RS,←e];exact h.sorted
  have zn:∀d∈q.aM.filter (fun d=>decide (d≠a.bG.bH)),qn {q with ax:=q.ax.set (cz q a.key).toNat a,aM:=q.aM.filter fun d=>decide (d≠a.bG.bH)} d=true:=fun d hd=>by
   obtain⟨yL,w9⟩:=List.mem_filter.1 hd
   rw[decide_eq_true_eq] at w9
   have RU:d.key≠a.key:=fun e=>w9 (Ji h.aM yL hm (by rw[e,xY]))
   obtain⟨x,hx,s5,rC⟩:=(C8 h.sorted).1 (h.uD d yL)
   obtain⟨k,ec,rfl⟩:=hO hx
   refine(C8 qt).2 ⟨ab q.ax k,RR ec fun e=>?_,s5,rC⟩
   subst e;rw[h2] at s5;exact RU s5.symm
  have cD:bT (q.aM.filter fun d=>decide (d≠a.bG.bH))=true:=Jj _ h.aM
  dsimp only
  split
  ·rename_i hz
   exact⟨h.aC,h.num,h.keys,h.val,h.ctx,cD,h.bm,h.fits,s0,qt,rB,zn,.inl hz,fun e=>absurd e hk,h.read,fun _=>cm,
    fun _=>⟨ho,⟨by show q.bm+1≤t;omega,Int.le_refl _⟩,hz,fun e=>absurd e hk,fun _=>by show(q.ax.set _ _).length=_;rw[hlen];exact Jk⟩⟩
  ·exact⟨h.aC,h.num,h.keys,h.val,h.ctx,cD,h.bm,h.fits,s0,qt,rB,zn,.inr (by show(q.ax.set _ _).length=_;rw[hlen];exact Jk),fun e=>absurd e hk,h.read,h.open_,fun e=>absurd he e⟩
 ·exact h
theorem RV {s:ct} (h:c6 s=true):dR s=false:=by
 have:=rb h
 unfold dR
 rw[Bool.and_eq_false_iff];left;simp;omega
theorem Dd {q:Call} {m:aD} (hm:bN m=true) (hv:m.yes=true→m.aq.length=1∧(ab m.aq 0).key=m.key):dE (dw m)=true:=by
 unfold dE dw
 dsimp only
 cases hy:m.yes
 ·simp[oG]
 ·obtain⟨h1,h2⟩:=hv hy
  have:=gA (mo hm).1 _ (bx (l:=m.aq) (k:=0) (by omega))
  simp[this,h2]
theorem zq {q:Call} {m:aD} {t:Int} (h:dK q t):dK (c4 q m t) t:=by
 unfold c4
 split
 ·rename_i hc
  simp only[Bool.and_eq_true,decide_eq_true_eq] at hc
  obtain⟨⟨⟨⟨⟨hm,_⟩,_⟩,iB⟩,hw⟩,hb⟩:=hc
  obtain⟨he,ho⟩:=sZ hw
  split
  ·rename_i hk
   split
   ·rename_i hs
    obtain⟨hg,rA⟩:=h.put hk
    exact⟨h.aC,h.num,h.keys,h.val,h.ctx,h.aM,h.bm,w7 hs.2,h.has,h.sorted,h.eD,h.uD,h.full,h.put,fun e=>absurd hk e,fun e=>by have:t=0:=e;have:=h.bm;omega,
     fun _=>⟨ho,⟨by show q.bm+1≤t;omega,Int.le_refl _⟩,rA,fun _=>RV hs.2,fun e=>absurd hk e⟩⟩
   ·exact h
  ·rename_i hk
   unfold iI
   split
   ·rename_i hr
    have hg:=Dd (q:=q) hm hr.2
    split
    ·rename_i hn
     split
     ·exact h.lz hw hb hk hg iB hn
     ·exact h
    ·split
     ·rename_i hy
      exact h.ml hw hb hk hg hy
     ·exact h
   ·exact h
 ·exact h
theorem Jl (q:Call) (m:aD) (t:Int):(c4 q m t).aC=q.aC∧(c4 q m t).num=q.num∧(c4 q m t).bm=q.bm∧(c4 q m t).over=q.over∧(c4 q m t).ctx=q.ctx∧(c4 q m t).keys=q.keys∧(c4 q m t).kind=q.kind:=by
 have e:∀q':Call,∀t,(jW q' t).aC=q'.aC∧(jW q' t).num=q'.num∧(jW q' t).bm=q'.bm∧(jW q' t).over=q'.over∧(jW q' t).ctx=q'.ctx∧(jW q' t).keys=q'.keys∧(jW q' t).kind=q'.kind:=fun q' t=>by
  unfold jW;split<;>exact⟨rfl,rfl,rfl,rfl,rfl,rfl,rfl⟩
 unfold c4 iI lz ml
 dsimp only
 repeat' split
 all_goals first|exact⟨rfl,rfl,rfl,rfl,rfl,rfl,rfl⟩|exact e _ _
theorem RW {q:Call} {t:Int} (h:dK q t):bT (hP q)=true:=by
 unfold hP
 split
 ·exact h.ctx
 ·rename_i he
  split
  ·rename_i hk
   refine wk h.ctx ?_
   have hs:c6 q.aA=true:=by
    have h1:=(h.ended he).2.2.2.1 hk
    have h2:=h.fits
    unfold jz at h2;rw[h1,Bool.false_or] at h2;exact h2
   have hu:jr q.keys=true:=by have:=h.keys;simp only[gQ,Bool.and_eq_true] at this;exact this.1
   have h1:q.keys.length=1:=by
    have:=h.keys;simp[gQ,hk] at this;omega
   unfold jq
   rw[Bool.and_eq_true]
   exact⟨ue hu (bx (by omega)),hs⟩
  ·exact(uj h.ctx h.eD).1
structure cK (w:be):Prop where
 time:0≤w.time
 au:w.au.length=4
 site:∀i,i<4→(ab w.au i).site=(i:Int)∧bw (ab w.au i)
 ao:w.ao.length≤60
 words:∀m∈w.ao,bN m=true
 seen:w.seen.length=2
 m7:∀l∈w.seen,bT l=true
 calls:iu w.calls w.time=true
theorem nV {w:be}:iR w=true↔cK w∧w.time≤99999:=by
 unfold iR wq
 simp only[Bool.and_eq_true]
 rw[iy]
 have e1:(!hasB wu w.ao)=true↔∀m∈w.ao,bN m=true:=by
  rw[Bool.not_eq_true',CU];unfold wu;simp
 have e2:(!hasB wv w.seen)=true↔∀l∈w.seen,bT l=true:=by
  rw[Bool.not_eq_true',CU];unfold wv;simp
 have e3:(!(!aQ w.time 0 99999||((w.au.length:Int) !=4)||decide (60<(w.ao.length:Int))||((w.seen.length:Int) !=2)))=true↔(0≤w.time∧w.time≤99999)∧w.au.length=4∧w.ao.length≤60∧w.seen.length=2:=by
  simp only[Bool.not_eq_true',Bool.or_eq_false_iff,Bool.not_eq_false',aQ,Bool.and_eq_true,decide_eq_true_eq,decide_eq_false_iff_not,bne_eq_false_iff_eq]
  omega
 rw[e1,e2,e3]
 have e4:∀i,rh w i=true↔(ab w.au i).site=(i:Int)∧bw (ab w.au i):=fun i=>by
  unfold rh;rw[Bool.and_eq_true,beq_iff_eq,iw]
 constructor
 ·rintro⟨⟨⟨⟨⟨⟨a1,a2⟩,a3,a4,a5⟩,a6⟩,a7⟩,a8⟩,a9⟩
  exact⟨⟨a1,a3,fun i hi=>(e4 i).1 (a6 i (by omega)),a4,a7,a5,a8,a9⟩,a2⟩
 ·rintro⟨h,ht⟩
  exact⟨⟨⟨⟨⟨⟨h.time,ht⟩,h.au,h.ao,h.seen⟩,fun i hi=>(e4 i).2 (h.site i (by rw[h.au] at hi;exact hi))⟩,h.words⟩,h.m7⟩,h.calls⟩
theorem s6 {l:List Call} {t:Int}:iu l t=true↔l.length≤20∧∀i,i<l.length→dK (ab l i) t∧(i=0∨(ab l (i-1)).bm<(ab l i).bm)∧(ab l i).num=fo l (i+1) (ab l i).aC∧∀j,j<i→ke (ab l j) (ab l i)=false:=by
 unfold iu ku ug
 rw[Bool.and_eq_true,iy,decide_eq_true_eq]
 constructor
 ·rintro⟨h,hl⟩
  refine⟨hl,fun i hi=>?_⟩
  have:=h i hi
  simp only[Bool.and_eq_true,Bool.or_eq_true,decide_eq_true_eq,beq_iff_eq,iy] at this
  exact⟨oO.1 this.1.1.1,this.1.1.2,this.1.2,fun j hj=>by simpa using this.2 j hj⟩
 ·rintro⟨hl,h⟩
  refine⟨fun i hi=>?_,hl⟩
  obtain⟨a1,a2,a3,a4⟩:=h i hi
  simp only[Bool.and_eq_true,Bool.or_eq_true,decide_eq_true_eq,beq_iff_eq,iy]
  exact⟨⟨⟨oO.2 a1,a2⟩,a3⟩,fun j hj=>by rw[a4 j hj];rfl⟩
theorem RX {l:List Call} {t t':Int} (h:iu l t=true) (ht:t≤t'):iu l t'=true:=by
 obtain⟨h1,h2⟩:=s6.1 h
 exact s6.2 ⟨h1,fun i hi=>⟨(h2 i hi).1.later ht,(h2 i hi).2⟩⟩
theorem s7 {α:Type} [Inhabited α] {l:List α} {i j:Nat} {x:α} (h:i<l.length):ab (l.set i x) j=if j=i then x else ab l j:=by
 unfold ab
 simp only[List.getD_eq_getElem?_getD]
 rw[List.getElem?_set]
 by_cases e:i=j
 ·subst e;simp[h]
 ·rw[if_neg e,if_neg fun e'=>e e'.symm]
theorem RY {l:List Call} {i:Nat} {x:Call} (h:i<l.length) (hx:x.aC=(ab l i).aC) (k:Nat) (y:Int):fo (l.set i x) k y=fo l k y:=by
 have e:((l.set i x).map Call.aC)=l.map Call.aC:=by
  rw[List.map_set]
  apply List.ext_getElem
  ·simp
  ·intro n RT xy
   by_cases e:i=n
   ·subst e;rw[List.getElem_set_self,List.getElem_map,hx];simp[ab,h]
   ·rw[List.getElem_set_ne e]
 have e2:∀l:List Call,fo l k y=((((l.map Call.aC).take k).filter fun d=>d==y).length:Nat):=fun l=>by
  unfold fo
  rw[←List.map_take,List.filter_map,List.length_map];rfl
 rw[e2,e2,e]
theorem RZ {l:List Call} {t:Int} (h:iu l t=true) {i:Nat} (hi:i<l.length) (hw:gG (ab l i)=true) {x:Call} (hx:dK x t) (h1:x.aC=(ab l i).aC) (h2:x.num=(ab l i).num) (h3:x.bm=(ab l i).bm):iu (l.set i x) t=true:=by
 obtain⟨he,ho⟩:=sZ hw
 obtain⟨a,b⟩:=s6.1 h
 have hb:∀j,(ab (l.set i x) j).bm=(ab l j).bm:=fun j=>by rw[s7 hi];split;subst_vars;exact h3;rfl
 have bB:∀j,(ab (l.set i x) j).aC=(ab l j).aC:=fun j=>by rw[s7 hi];split;subst_vars;exact h1;rfl
 have R0:∀j,(ab (l.set i x) j).num=(ab l j).num:=fun j=>by rw[s7 hi];split;subst_vars;exact h2;rfl
 refine s6.2 ⟨by rw[List.length_set];exact a,fun j hj=>?_⟩
 rw[List.length_set] at hj
 obtain⟨b1,b2,b3,b4⟩:=b j hj
 refine⟨?_,by rw[hb,hb];exact b2,by rw[R0,bB,RY hi h1];exact b3,fun k hk=>?_⟩
 ·rw[s7 hi];split
  ·exact hx
  ·exact b1
 ·have hc:=b4 k hk
  unfold ke at hc⊢
  rw[bB,bB,hb]
  by_cases e:k=i
  ·subst e
   rw[he,ho] at hc
   have:((ab l k).aC==(ab l j).aC)=false:=by simpa using hc
   rw[this];rfl
  ·rw[s7 hi,if_neg e];exact hc
theorem nW {l:List Call} {aC:Int} (h:0≤bW l aC):(bW l aC).toNat<l.length∧(ab l (bW l aC).toNat).aC=aC∧gG (ab l (bW l aC).toNat)=true:=by
 unfold bW dm at*
 split at h
 ·rename_i k hk
  obtain⟨h1,h2,_⟩:=List.findIdx?_eq_some_iff_getElem.1 hk
  have e:l[k]=ab l k:=by simp[ab,h1]
  rw[e] at h2
  simp only[rq,Bool.and_eq_true,beq_iff_eq] at h2
  refine⟨by simpa using h1,by simpa using h2.1.1,?_⟩
  unfold gG
  simp[h2.1.2,h2.2]
 ·omega
theorem R1 {ao more:List aD} (h:ao.length≤60):(dQ ao more).length≤60:=by
 unfold dQ;rw[List.length_append,List.length_take];omega
theorem R2 {ao more:List aD} (h:∀m∈ao,bN m=true) (h':∀m∈more,bN m=true):∀m∈dQ ao more,bN m=true:=fun m hm=>by
 unfold dQ at hm
 rcases List.mem_append.1 hm with hm|hm
 ·exact h m hm
 ·exact h' m (List.mem_of_mem_take hm)
theorem cK.later {w:be} (h:cK w):cK {w with time:=w.time+1}:=
 ⟨by have:=h.time;show 0≤w.time+1;omega,h.au,h.site,h.ao,h.words,h.seen,h.m7,RX h.calls (by show w.time≤w.time+1;omega)⟩
theorem cK.send {w:be} (h:cK w) {more:List aD} (hm:∀m∈more,bN m=true):cK {w with ao:=dQ w.ao more}:=
 ⟨h.time,h.au,h.site,R1 h.ao,R2 h.words hm,h.seen,h.m7,h.calls⟩
theorem cK.server {w:be} (h:cK w) {i:Nat} (hi:i<4) {s:Server} (hs:bw s) (he:s.site=(ab w.au i).site):cK {w with au:=w.au.set i s}:=by
 refine⟨h.time,by show(w.au.set _ _).length=4;rw[List.length_set];exact h.au,fun j hj=>?_,h.ao,h.words,h.seen,h.m7,h.calls⟩
 show(ab (w.au.set i s) j).site=j∧bw (ab (w.au.set i s) j)
 rw[s7 (by rw[h.au];exact hi)]
 split
 ·subst_vars;exact⟨he.trans (h.site _ hi).1,hs⟩
 ·exact h.site j hj
theorem cK.Jm {w:be} (h:cK w) {i:Nat} (hi:i<w.calls.length) (hw:gG (ab w.calls i)=true) {x:Call} (hx:dK x w.time) (h1:x.aC=(ab w.calls i).aC) (h2:x.num=(ab w.calls i).num) (h3:x.bm=(ab w.calls i).bm):cK {w with calls:=w.calls.set i x}:=
 ⟨h.time,h.au,h.site,h.ao,h.words,h.seen,h.m7,RZ h.calls hi hw hx h1 h2 h3⟩
theorem cK.call {w:be} (h:cK w) {i:Nat} (hi:i<w.calls.length):dK (ab w.calls i) w.time:=((s6.1 h.calls).2 i hi).1
theorem cK.R3 {w:be} (h:cK w) (i:Nat) {l:List ar} (hl:bT l=true):cK {w with seen:=w.seen.set i l}:=
 ⟨h.time,h.au,h.site,h.ao,h.words,by show(w.seen.set _ _).length=2;rw[List.length_set];exact h.seen,fun x hx=>by
  rcases List.mem_or_eq_of_mem_set hx with hx|rfl
  ·exact h.m7 x hx
  ·exact hl,h.calls⟩
theorem R4 {w:be} (h:cK w) (m:aD):cK (mn w m):=by
 unfold mn
 dsimp only
 split
 ·exact h
 ·rename_i hn
  obtain⟨h1,h2,h3⟩:=nW (l:=w.calls) (aC:=m.to-10) (by omega)
  obtain⟨e1,e2,e3,_⟩:=Jl (ab w.calls (bW w.calls (m.to-10)).toNat) m w.time
  have hq:=zq (m:=m) (h.call h1)
  have hg:=h.Jm h1 h3 hq e1 e2 e3
  split
  ·exact hg.R3 _ (RW hq)
  ·exact hg
theorem uG (s:Server):(fX s).site=s.site:=(w5 s).1
theorem R5 (s:Server) (m:aD):(gE s m).1.site=s.site:=by
 unfold gE
 split
 ·split
  ·rfl
  ·split
   ·exact uG _
   ·rfl
 ·rfl
theorem R6 (s:Server) (m:aD):(gF s m).1.site=s.site:=by
 unfold gF
 split
 ·dsimp only
  split
  ·split
   ·exact uG _
   ·rfl
  ·exact uG _
 ·rfl
theorem R7 (s:Server) (m:aD):(gp s m).1.site=s.site:=by
 unfold gp
 split
 ·split
  ·rfl
  ·split
   ·exact uG _
   ·rfl
 ·rfl
theorem R8 (s:Server) (m:aD):(dY s m).1.site=s.site:=by
 unfold dY
 repeat' split
 ·exact R5 s m
 ·rfl
 ·exact R6 s m
 ·show(mS s m).site=s.site
  unfold mS;split<;>rfl
 ·rfl
 ·show(mU s m).site=s.site
  unfold mU;split
  ·exact uG _
  ·rfl
 ·exact R7 s m
 ·show(mi s m).site=s.site
  unfold mi;split
  ·exact uG _
  ·rfl
 ·rfl
theorem R9 (s:Server) (m:aD):(eX s m).1.site=s.site:=by
 unfold eX
 split
 ·exact R8 s m
 ·rfl
theorem Sa {w:be} (h:cK w) (e:Ev):cK (gX w e).1:=by
 unfold gX
 split
 ·rename_i hr
  simp only[aQ,Bool.and_eq_true,decide_eq_true_eq] at hr
  have hm:bN (ab w.ao e.word.toNat)=true:=h.words _ (bx (by omega))
  have h1:cK (if e.kind=5∨e.fN=0 then{w with ao:=w.ao.take e.word.toNat++w.ao.drop (e.word.toNat+1)} else w):=by
   split
   ·have hs:=uy w.ao e.word.toNat
    exact⟨h.time,h.au,h.site,Nat.le_trans hs.length_le h.ao,fun m hm=>h.words m (hs.subset hm),h.seen,h.m7,h.calls⟩
   ·exact h
  have ib:(if e.kind=5∨e.fN=0 then{w with ao:=w.ao.take e.word.toNat++w.ao.drop (e.word.toNat+1)} else w).au=w.au:=by split<;>rfl
  dsimp only
  generalize (if e.kind=5∨e.fN=0 then{w with ao:=w.ao.take e.word.toNat++w.ao.drop (e.word.toNat+1)} else w)=w1 at*
  split
  ·exact h1
  ·split
   ·exact R4 h1 _
   ·rename_i bB
    have oP:0≤(ab w.ao e.word.toNat).to∧(ab w.ao e.word.toNat).to≤3:=by
     have:=(mr hm).2.2.1
     simp only[j7,cJ,aQ,Bool.or_eq_true,Bool.and_eq_true,decide_eq_true_eq] at this bB
     omega
    have hi:(ab w.ao e.word.toNat).to.toNat<4:=by omega
    have Jn:=(h.site _ hi).2
    have:=(h1.server hi (s:=(eX (ab w.au (ab w.ao e.word.toNat).to.toNat) (ab w.ao e.word.toNat)).1) (Rk Jn) (by rw[R9,ib])).send (Rv (m:=ab w.ao e.word.toNat) Jn)
    rw[←ib] at this⊢
    exact this
 ·exact h
theorem Sb {w:be} (h:cK w) (e:Ev) (ha:cJ e.at_=true):cK (eQ w e).1:=by
 rw[kS] at ha
 have hi:e.at_.toNat<4:=by omega
 obtain⟨_,hs⟩:=h.site _ hi
 unfold eQ
 dsimp only
 split
 ·exact h.server hi (Rl hs) rfl
 ·split
  ·exact h.server hi (Rm hs) rfl
  ·split
   ·exact h.send (C7 hs)
   ·split
    ·rename_i hk
     have hp:=w6 hk
     have hg:=zj hs hk
     exact(h.server hi hg rfl).send fun m hm=>by
      obtain rfl:m=_:=by simpa using hm
      exact C5 hg hp.2.1 hp.2.2.1
    ·exact h
theorem Sc {w:be} (h:cK w) (e:Ev) (al:(ia w e).2=true):cK (ia w e).1:=by
 unfold ia at*
 split at al
 ·rename_i hk
  rw[if_pos hk]
  unfold jt at*
  split at al
  ·rename_i hc
   rw[if_pos hc]
   exact⟨h.time,h.au,h.site,h.ao,h.words,h.seen,h.m7,al⟩
  ·cases al
 ·rename_i hk
  rw[if_neg hk]
  dsimp only at al⊢
  split
  ·exact h
  ·rename_i hn
   obtain⟨h1,h2,h3⟩:=nW (l:=w.calls) (aC:=e.aC) (by omega)
   have hq:=h.call h1
   obtain⟨he,_⟩:=sZ h3
   split
   ·refine h.Jm h1 h3 ⟨hq.aC,hq.num,hq.keys,hq.val,hq.ctx,hq.aM,hq.bm,hq.fits,hq.has,hq.sorted,hq.eD,hq.uD,hq.full,hq.put,hq.read,hq.open_,fun e=>absurd he e⟩ rfl rfl rfl
   ·exact h.send (Jh hq)
theorem Jo {w:be} (h:cK w) (e:Ev) (al:(ei w e).2=true):cK (ei w e).1:=by
 have h1:=h.later
 unfold ei at*
 dsimp only at al⊢
 split
 ·rename_i hk
  rw[if_pos hk] at al
  exact Sc h1 e al
 ·split
  ·exact Sa h1 e
  ·split
   ·rename_i hk
    rw[Bool.and_eq_true] at hk
    exact Sb h1 e hk.2
   ·exact h1
theorem Jp (w:be) (e:Ev):(ei w e).1.time=w.time+1:=by
 unfold ei ia jt gX mn eQ
 dsimp only
 repeat' split
 all_goals rfl
theorem De {w:be} (h:iR w=true) (e:Ev):iR (iU w e).1=true:=by
 unfold iU
 split
 ·rename_i hc
  refine nV.2 ⟨Jo (nV.1 h).1 e hc.2,?_⟩
  show(ei w e).1.time≤99999
  rw[Jp];omega
 ·exact h
theorem zs:iR ej=true:=by decide
end Go.Proofs.YtoeioeimmfpefaaGreat
