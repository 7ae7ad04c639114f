/- Part 14: contracts of functions, plain facts. -/
import Derived.Test.YtdanidpleofjgaaGreatP10
set_option linter.all false
set_option maxRecDepth 100000
set_option maxHeartbeats 4000000
namespace Go.Proofs.YtdanidpleofjgaaGreat
open Go Go.RowKit Tryz
attribute [local irreducible] wpList Code.wp Ok
def HG (s t:cw):
 Fn prog 34 [s.av,t.av] (AV.bool (ck s t)):=by
 refine Fn.go 24 func34 ntmps34 (λW I a U=>?_);refine Df λI a w U=>?_;refine U.rt ?_;rfl
def qL (n:Int):
 Fn prog 95 [AV.int n] (AV.int (bP n)):=by
 refine Fn.go 8 func95 ntmps95 (λW I a U=>?_);refine aH λI a w U=>?_;refine U.o (.c1 (rS ..)) λU=>?_;refine ax λI a w U=>?_;refine cz (λae=>?_) λae=>?_
 .refine bc ?_;exact fM (by simp[bP,ae])
 refine bA λI a w U=>?_;refine U.o (vR .tt .c (λ_=>by simp[cO,aS] at ae;omega)) λU=>?_;refine bc ?_;exact fM (by simp[bP,ae])
def nq (v:aE):
 Fn prog 111 [v.av] (v.bh.av):=by
 refine Fn.go 8 func111 ntmps111 (λW I a U=>?_);refine bA λI a w U=>?_;refine U.alloc rfl cE fh λb2 I a w U=>?_;refine bz λI a w U=>?_;refine U.o (.bd fh (.k (.t aW.nil))) λU=>?_;refine ax λI a w U=>?_;refine U.ret rfl (.cons (.sx 0) ba.nil) ?_;rfl
def DQ (a b:ao):
 Fn prog 123 [a.av,b.av] (AV.bool (ee a b)):=by
 refine Fn.go 24 func123 ntmps123 (λW I a U=>?_);refine NN λI a w U=>?_;refine U.q .T2 (.cl (HG ..)) λU=>?_;refine tj ?_;rfl
def YS {α:Type} (p:α->Bool) (l:List α):-1<=dm p l:=by unfold dm;split<;>omega
def YT (d:ao) (v:aE):([v.key,v.ar.time,v.ar.site]==[d.key,d.ar.time,d.ar.site])=nh d v:=by
 obtain⟨k,⟨t,s⟩⟩:=d;obtain⟨vk,⟨vt,vs⟩,_,_,_,_⟩:=v;rw[Bool.eq_iff_iff];simp[nh,aE.bh,Bool.and_eq_true]
def YU (v:aE) (d:ao):
 Fn prog 168 [v.av,AV.ptr d.cells] (AV.bool (nh d v)):=by
 refine Fn.go 8 func168 ntmps168 (λW I a U=>?_);refine aB λI a w U=>?_;refine U.dk ?_;refine aX ?_;refine .o (.c1 (nq ..)) ?_;refine aX ?_;refine .o (mq [_,_,_] [_,_,_] wq rfl rfl .tt .tt) ?_;refine aX ?_;refine .nil ?_;intro I a w U;refine zt ?_;refine U.rt ?_;exact bF (YT d v)
def Pt {a b:cw} (h:ck a b=false) (h':ck b a=false):a=b:=by
 obtain⟨t,s⟩:=a;obtain⟨t',s'⟩:=b;simp[ck] at h h';simp;omega
def DR {a b:cw} (h:ck a b=true):ck b a=false:=by
 obtain⟨t,s⟩:=a;obtain⟨t',s'⟩:=b;simp[ck] at h⊢;omega
def DS (e d:ao) (h:e.key=d.key):(if ck d.ar e.ar then e else d)=(if ck e.ar d.ar then d else e):=by
 cases h1:ck d.ar e.ar
 .cases h2:ck e.ar d.ar
  .have:=Pt h1 h2;obtain⟨k,s⟩:=e;obtain⟨k',s'⟩:=d;simp at this h⊢;exact⟨h.symm,this⟩
  simp
 rw[DR h1];simp
def eL {l:List ao} (h:bN l=true):l.length<=6:=by
 have:=On l (-1) h om;omega
def tH (key:Int) (a:Answer):Bool:=a.key==key
def cB (c:Call) (key:Int):Int:=dm (tH key) c.aA
def uU (c:Call) (i:Nat):Bool:=decide (0<=cB c (ab c.aO i).key)&&ck (ab c.aA (cB c (ab c.aO i).key).toNat).bm.ar (ab c.aO i).ar
def qM (c:Call) (time:Int):Bool:=!(!aS c.aq 0 1||!aS c.num 1 99||!aS c.kind 1 2||!wz c||!aS c.val 0 9999||!bN c.ctx||!bN c.aO||!aS c.bE 1 time)
def wN (m:az):Bool:=!bM m
def HH {a b:cw} (h:∀x,ck x a=ck x b):a=b:=by
 have h1:=h a;have h2:=h b;have e:∀s:cw,ck s s=false:=λs=>by simp[ck]
 rw[e] at h1 h2;exact Pt h1.symm h2
def yU (x:Int) (d:Call):Bool:=d.aq==x
def j5 (l:List Call) (i:Nat) (x:Int):Int:=dm (yU x) (l.drop (i+1))
def uV (w:aI) (i:Nat):List ao:=if 0<=j5 w.calls i (ab w.calls i).aq then(ab w.calls (i+1+(j5 w.calls i (ab w.calls i).aq).toNat)).ctx else ab w.seen (ab w.calls i).aq.toNat
def Pu:∀(l:List ao) (last:Int),dH last l=true->last<=5->(l.length:Int)<=5-last
 |[],last,_,h=>by simp;omega
 |d::r,last,h,hl=>by
  simp only[dH,Bool.and_eq_true,aS,decide_eq_true_eq] at h;have:=Pu r d.key h.2 om;simp;omega
def YV {l:List ao} (h:bN l=true):l.length<=6:=by
 have:=Pu l (-1) h om;omega
def YW {v:aE} (h:ef v=true):v.aR.length<=6:=by
 simp only[ef,Bool.and_eq_true] at h;exact YV h.1.2
def j6 (l:List aE) (d:ao):Option aE:=if bY l=true/\0<=placeOf l d then some (ab l (placeOf l d).toNat) else none
def Pv (key:Int) (st:cw) (v:aE):((v.key==key)&&([v.ar.time,v.ar.site]==[st.time,st.site]))=nh ⟨key,st⟩ v:=by
 obtain⟨t,s⟩:=st;obtain⟨vk,⟨vt,vs⟩,_,_,_,_⟩:=v;rw[Bool.eq_iff_iff];simp[nh,aE.bh]
def YX {l:List aE} {d:ao} {k:Nat} (hc:bY l=true) (hk:k<l.length) (h:∀i,i<k->nh d (ab l i)=false) (hp:nh d (ab l k)=true):j6 l d=some (ab l k):=by
 have e:placeOf l d=k:=ng hk h hp;unfold j6;rw[e,if_pos ⟨hc,by omega⟩];rfl
def YY {l:List aE} {d:ao} {k:Nat} (hk:l.length<=k) (h:∀i,i<k->nh d (ab l i)=false):j6 l d=none:=by
 have e:placeOf l d=-1:=mF hk h;unfold j6;rw[e,if_neg om]
def YZ {l:List aE} {d:ao} (h:bY l=false):j6 l d=none:=by
 unfold j6;rw[if_neg (by rw[h];simp)]
def yV {l:List aE} {d:ao} (hc:bY l=true):(j6 l d).isSome=decide (0<=placeOf l d):=by
 unfold j6;by_cases h:0<=placeOf l d
 .rw[if_pos ⟨hc,h⟩];simp[h]
 rw[if_neg (by simp[h])];simp[h]
def wO (s:Server) (i:Nat):Bool:=!((decide (0<=placeOf s.an (ab s.waits i).bh))||(bP (ab s.waits i).ar.site==bP s.site))
def Y0 {n:Nat} {f g:Nat->Bool}:de n (λi=>f i&&g i)=(de n f&&de n g):=by
 rw[Bool.eq_iff_iff,Bool.and_eq_true,js,js,js];exact⟨λh=>⟨λi hi=>(Bool.and_eq_true_iff.1 (h i hi)).1,λi hi=>(Bool.and_eq_true_iff.1 (h i hi)).2⟩,λh i hi=>Bool.and_eq_true_iff.2 ⟨h.1 i hi,h.2 i hi⟩⟩
def Pw (s:Server) (i:Nat) (hc:bY s.an=true):((j6 s.an ⟨(ab s.waits i).key,(ab s.waits i).ar⟩).isSome||(bP (ab s.waits i).ar.site==bP s.site))=!wO s i:=by
 rw[yV hc];show _=!!(_||_);rw[Bool.not_not];rfl
def eE:List aE->aE->List aE
 |[],v=>[v]
 |x::r,v=>if gu x v then x::eE r v else v::x::r
def Px:∀{l:List aE} {v:aE} {n:Nat},n<=l.length->(∀i,i<n->gu (ab l i) v=true)->(n<l.length->gu (ab l n) v=false)->l.take n++v::l.drop n=eE l v
 |[],v,n,h,_,_=>by have:n=0:=by simpa using h
                   subst this;rfl
 |x::r,v,0,_,_,h2=>by
  have:=h2 bt;have e:gu x v=false:=this;simp[eE,e]
 |x::r,v,n+1,h,h1,h2=>by
  have e:gu x v=true:=h1 0 om;have ih:=Px (l:=r) (v:=v) (n:=n) (by simpa using h) (λi hi=>h1 (i+1) om) (λhl=>h2 (by simpa using hl));simp[eE,e,ih]
def DT {a b:ao} (h:ee a b=false) (h':ee b a=false):a=b:=by
 obtain⟨k,⟨t,s⟩⟩:=a;obtain⟨k',⟨t',s'⟩⟩:=b;simp[ee,ck] at h h';simp;omega
def Y1 {a b:ao} (h:ee a b=true):ee b a=false:=by
 obtain⟨k,⟨t,s⟩⟩:=a;obtain⟨k',⟨t',s'⟩⟩:=b;simp[ee,ck] at h⊢;omega
def Be (a:ao):ee a a=false:=by simp[ee,ck]
def yW {a b d:ao} (h:ee a b=true) (h':ee b d=true):ee a d=true:=by
 obtain⟨k,⟨t,s⟩⟩:=a;obtain⟨k',⟨t',s'⟩⟩:=b;obtain⟨k2,⟨t2,s2⟩⟩:=d;simp[ee,ck] at h h'⊢;omega
def VS (l:List aE):Prop:=l.Pairwise λa b=>gu a b=true
def iL:∀{l:List aE} {v x:aE},x∈eE l v↔x=v\/x∈l
 |[],v,x=>by simp[eE]
 |y::r,v,x=>by
  unfold eE;split
  .rw[List.mem_cons,iL (l:=r),List.mem_cons];constructor
   .rintro(h|h|h)<;>simp[h]
   rintro(h|h|h)<;>simp[h]
  rw[List.mem_cons]
def Py (l:List aE) (v:aE):(eE l v).length=l.length+1:=by
 induction l with
 |nil=>rfl
 |cons x r ih=>unfold eE;split<;>simp[ih]
def Pz:∀{l:List aE} {v:aE},VS l->(∀x∈l,x.bh≠v.bh)->VS (eE l v)
 |[],v,_,_=>by simp[eE,VS]
 |x::r,v,h,hd=>by
  unfold VS at h;rw[List.pairwise_cons] at h;unfold eE;split
  .rename_i bK;unfold VS;rw[List.pairwise_cons];refine⟨λy hy=>?_,Pz h.2 λy hy=>hd y (by simp[hy])⟩;rcases iL.1 hy with rfl|hy
   .exact bK
   exact h.1 y hy
  rename_i bK;have h1:gu v x=true:=by
   cases h1:gu v x
   .simp only[Bool.not_eq_true] at bK;exact absurd (DT bK h1) (hd x bt)
   rfl
  unfold VS;rw[List.pairwise_cons,List.pairwise_cons];refine⟨λy hy=>?_,h.1,h.2⟩;rcases List.mem_cons.1 hy with rfl|hy
  .exact h1
  exact yW h1 (h.1 y hy)
def Bf {l:List aE} {d:ao} (h:0<=placeOf l d):(placeOf l d).toNat<l.length/\(ab l (placeOf l d).toNat).bh=d:=by
 unfold placeOf dm at*;split at h
 .rename_i k hk;obtain⟨h1,h2,_⟩:=List.findIdx?_eq_some_iff_getElem.1 hk;refine⟨by simpa using h1,?_⟩;simp only[Int.toNat_natCast];simpa[ab,h1,nh] using h2
 omega
def gS (out:List aE) (v:aE):List aE:=if placeOf out v.bh<0 then eE out v else out
def Y2 {out:List aE} {v x:aE} (h:x∈gS out v):x=v\/x∈out:=by
 unfold gS at h;split at h
 .exact iL.1 h
 exact Or.inr h
def Y3 (out:List aE) (v:aE):(gS out v).length<=out.length+1:=by
 unfold gS;split
 .rw[Py];exact Nat.le_refl _
 omega
def HI:∀{l out:List aE} {x:aE},x∈l.foldl gS out->x∈l\/x∈out
 |[],_,_,h=>Or.inr h
 |v::r,out,x,h=>by
  rcases HI (l:=r) h with h1|h1
  .exact Or.inl (by simp[h1])
  rcases Y2 h1 with rfl|h2
  .exact Or.inl bt
  exact Or.inr h2
def HJ:∀(l out:List aE),(l.foldl gS out).length<=out.length+l.length
 |[],_=>by simp
 |v::r,out=>by
  have:=HJ r (gS out v);have h2:=Y3 out v;simp at this⊢;omega
def Bg {l out:List aE} {k:Nat} (h:k<l.length):(l.take (k+1)).foldl gS out=gS ((l.take k).foldl gS out) (ab l k):=by
 rw[ez h,List.foldl_append];rfl
def gz {l:List aE} (h:bY l=true):l.length<=80:=by
 unfold bY at h;rw[Bool.and_eq_true,decide_eq_true_eq] at h;exact h.1
def HK:∀{l:List cw} {t:Int},0<=t->t<=9999->(∀s∈l,dr s=true)->0<=l.foldl (λt s=>if t<s.time then s.time else t) t/\l.foldl (λt s=>if t<s.time then s.time else t) t<=9999
 |[],t,h0,h1,_=>⟨h0,h1⟩
 |s::l,t,h0,h1,h=>by
  have U:=h s bt;simp[dr,aS] at U;rw[List.foldl_cons];split
  .exact HK om om λx hx=>h x (by simp[hx])
  exact HK h0 h1 λx hx=>h x (by simp[hx])
def eC (slot:Int) (v:aE):Bool:=cW v.key==slot
def fG (l:List ao) (d:ao):Int:=dm (λe=>decide (e=d)) l
def kq:List ao->ao->List ao
 |[],d=>[d]
 |e::r,d=>if ee d e then d::e::r else e::kq r d
def eF (l:List ao) (d:ao):List ao:=if 0<=fG l d then l else kq l d
structure mJ (l:List ao) (v:ao) (k:Nat) (done:Bool) (out:List ao):Prop where
 hk:k<=l.length
 eq:kq l v=if done then out++l.drop k else out++kq (l.drop k) v
 len:out.length<=k+done.toNat
def PA (l:List ao) (v:ao):(kq l v).length=l.length+1:=by
 induction l with
 |nil=>rfl
 |cons x r ih=>unfold kq;split<;>simp[ih]
def PB (l:List ao) (v:ao):(eF l v).length<=l.length+1:=by
 unfold eF;split
 .omega
 rw[PA];exact Nat.le_refl _
def l6 (s:Server) (d:ao):Bool:=decide (0<=placeOf s.an d)||decide (0<=fG s.bj d)
def Bh (s:Server) (v:aE):Bool:=de v.aR.length λi=>l6 s (ab v.aR i)
def qN (d:ao) (v:aE):Bool:=decide (0<=fG v.aR d)
def iT (s:Server) (d:ao):Bool:=!de s.waits.length λi=>!qN d (ab s.waits i)
def mK (s:Server) (n:Nat):Server:={s with an:=eE s.an (ab s.waits n),waits:=s.waits.take n++s.waits.drop (n+1)}
def DU (s:Server):Server:={s with bj:=s.bj.filter (iT s)}
def HL {s:Server} {n:Nat} (h:n<s.waits.length):(mK s n).waits.length=s.waits.length-1:=by simp[mK];omega
structure eM (s:Server):Prop where
 aF:s.aF.length=3
 an:bY s.an=true
 waits:bY s.waits=true
 apart:∀v∈s.waits,placeOf s.an v.bh<0
 bj:s.bj.length<=80
def cn:az:=⟨0,0,0,0,0,⟨0,0⟩,0,false,[],0,0,[],[],[]⟩
def gh (slot:Int) (d:ao):Bool:=cW d.key==slot
def eb (s:Server) (slot:Int):Server:=
 {s with an:=s.an.filter λv=>!eC slot v,waits:=s.waits.filter λv=>!eC slot v,aD:=s.aD.filter λd=>!gh slot d}
def mL (s:Server) (m:az) (st:cw):az:={cn with kind:=2,aU:=s.site,to:=m.aU,call:=m.call,key:=m.key,ar:=st}
def mM (s:Server) (m:az) (o:Option aE):az:={cn with kind:=4,aU:=s.site,to:=m.aU,call:=m.call,key:=m.key,ar:=m.ar,yes:=o.isSome,an:=o.toList}
def l7 (s:Server) (m:az) (v:aE):az:={cn with kind:=6,aU:=s.site,to:=m.aU,key:=v.key,ar:=v.ar}
def mN (s:Server) (m:az):az:={cn with kind:=8,aU:=s.site,to:=m.aU,key:=m.key,ar:=m.ar}
def nr (s:Server) (m:az):az:={cn with kind:=10,aU:=s.site,to:=m.aU,slot:=m.slot,bf:=m.bf}
def iU (l:List aE) (vs:List aE):List aE:=vs.foldl gS l
def kr (s:Server) (m:az):Server:=
 let x:=eb s m.slot
 {x with aF:=x.aF.set m.slot.toNat ⟨m.bf,1⟩,an:=iU x.an m.an,waits:=iU x.waits m.waits,aD:=m.aD.foldl eF x.aD}
def tI (s:Server) (m:az):Bool:=
 let x:=eb s m.slot
 decide (x.an.length+m.an.length<=80)&&decide (x.waits.length+m.waits.length<=80)&&decide (x.aD.length+m.aD.length<=80)
def kR (s:Server) (m:az):Server:=let x:=eb s m.slot;{x with aF:=x.aF.set m.slot.toNat ⟨m.bf,0⟩}
def mO (s:Server) (asked:List ao) (d:ao):List ao:=if l6 s d||decide (0<=fG asked d) then asked else asked++[d]
def Bi (s:Server):List ao:=(s.waits.map aE.aR).flatten.foldl (mO s) []
def asks (q:Call):List az:=
 if q.kind=1 then[{cn with kind:=1,key:=ab q.keys 0,val:=q.val,aR:=q.ctx}]
 else(q.keys.filter λk=>decide (cB q k<0)).map (λk=>{cn with kind:=3,key:=k})++q.aO.map λd=>{cn with kind:=3,key:=d.key,ar:=d.ar}
def mP (q:Call) (a:Answer) (time:Int):Call:=
 if a.bm.bh∈q.aO then
  let x:={q with aA:=q.aA.set (cB q a.key).toNat a,aO:=q.aO.filter λd=>decide (d≠a.bm.bh)}
  if x.aO=[] then{x with end_:=time} else x
 else q
def bV {α:Type} {f:α->List AV} (l:List α) (x:α):l.map f++[f x]=(l++[x]).map f:=by simp
def tJ (l:List ao) (h:l.length<=1048576):
 Fn prog 104 [bw l] (bw l):=by
 refine Fn.go 5 func104 ntmps104 (λW I a U=>?_);refine aH λI a w U=>?_;have U:=U.fV (sz:=3) 115;refine U.append 0 rfl du cE rfl .c .r rfl fT λv4 a w U=>?_;obtain⟨I,U⟩:=U.fr 0 4;refine bc ?_;rfl
def DV (q:Call) (key:Int):
 Fn prog 149 [q.av,AV.int key] (AV.int (cB q key)):=by
 refine Fn.go 22 func149 ntmps149 (λW I a U=>?_);have lens:q.keys.length<=9223372036854775807/\q.aA.length<=9223372036854775807/\q.aO.length<=9223372036854775807:=⟨U.ln 0 3,U.ln 0 11,U.ln 0 12⟩;refine aN λI a w U=>?_;refine St.lo (σ:=Nat) (run 18 4 []) ⟨λk=>[(5,AV.int k)],λk=>[],λk=>k<=q.aA.length/\∀i,i<k->tH key (ab q.aA i)=false⟩ (λk=>q.aA.length-k) 0 U ?aL ?bG;case aL=>exact⟨Nat.zero_le _,λi hi=>by omega⟩
 rintro k I a w al U;obtain⟨hk,aT⟩:=al;refine ct λI a w U=>?_;refine cz (λae=>?_) λae=>?_
 .refine rR λI a w U=>?_;refine U.cd (λah=>?_) λah=>?_
  .refine di ?_;exact fM (ng ae aT ah).symm
  refine aN λI a w U=>?_;exact U.ag (k+1) (⟨by omega,λi h1=>by rcases Nat.lt_succ_iff_lt_or_eq.1 h1 with h|h;exact aT i h;rw[h];exact ah⟩)
 refine zt ?_;refine bc ?_;exact fM (mF om aT).symm
def PC (q:Call) (k:Nat):(decide (cB q (ab q.aO k).key<0)||!ck (ab q.aA (cB q (ab q.aO k).key).toNat).bm.ar (ab q.aO k).ar)=!uU q k:=by
 unfold uU;have e:decide (cB q (ab q.aO k).key<0)=!decide (0<=cB q (ab q.aO k).key):=by rw[Bool.eq_iff_iff];simp
 rw[e];simp
def PD {q:Call} {time:Int} (h:qM q time=true):1<=q.bE/\q.bE<=time/\q.aO.length<=6:=by
 simp only[qM,Bool.not_eq_true',Bool.or_eq_false_iff] at h;have h1:=h.2;have h2:=h.1.2;simp at h2;have:=eL h2;simp[aS] at h1;omega
def wP (v:aE) (h:v.aR.length<=1048576):
 Fn prog 125 [v.av] (v.av):=by
 refine Fn.go 8 func125 ntmps125 (λW I a U=>?_);refine sr<|U.box rfl .tt λb1 I a w U=>U.alloc rfl bU dR λb2 I a w U=>?_;refine aH λI a w U=>?_;refine U.o (.cl (tJ v.aR h)) λU=>?_;refine aY λI a w U=>?_;refine U.ret rfl (.cons (.sx 1) ba.nil) ?_;rfl
def PE {l out:List aE} (h1:∀v∈l,v.aR.length<=6) (h2:∀v∈out,v.aR.length<=6):∀v∈l.foldl gS out,v.aR.length<=6:=λv hv=>(HI hv).elim (h1 v) (h2 v)
def DW {v:aE} (h:ef v=true):bN v.aR=true:=by
 simp only[ef,Bool.and_eq_true] at h;exact h.1.2
def uW (l:List aE):Prop:=l.length<=1048576/\∀v∈l,v.aR.length<=1048576
def jU (m:az):Prop:=m.aR.length<=1048576/\uW m.an/\uW m.waits/\m.aD.length<=1048576
def qO (s:Server):Prop:=s.aF.length<=1048576/\uW s.an/\uW s.waits/\s.aD.length<=1048576/\s.bj.length<=1048576
def yX (q:Call):Prop:=q.keys.length<=1048576/\q.ctx.length<=1048576/\q.aA.length<=1048576/\(∀y∈q.aA,y.bm.aR.length<=1048576)/\q.aO.length<=1048576
def DX (l:List ao) (h:l.length<=1048576):
 iA prog 104 [bw l] 115 3 (l.map ao.cells):=by
 refine iA.intro 5 func104 rfl ntmps104 rfl aG (λW I a U=>?_);refine aH λI a w U=>?_;have U:=U.fV (sz:=3) 115;refine U.append 0 rfl du cE rfl .c .r rfl fT λv4 a w U=>?_;refine ax λI a w U=>?_;exact U.qx (r:=2) 0 rfl rfl rfl rfl
def Server.Y4 (s:Server) (r:Value×Value×Value×Value×Value):AV:=.agg [.int s.site,.bool s.up,.val r.1,.val r.2.1,.val r.2.2.1,.val r.2.2.2.1,.val r.2.2.2.2]
def Server.PF (s:Server) (r:Value×Value×Value×Value×Value):List Own:=[Own.row r.1 46 2 (s.aF.map cG.cells),Own.row r.2.1 62 7 (s.an.map aE.cells),Own.row r.2.2.1 62 7 (s.waits.map aE.cells),Own.row r.2.2.2.1 115 3 (s.aD.map ao.cells),Own.row r.2.2.2.2 115 3 (s.bj.map ao.cells)]
def nu {α:Type} [Inhabited α] {p:α->Bool} {l:List α} {k:Nat} (h:k<l.length) (hp:p (ab l k)=true):(l.take (k+1)).filter p=(l.take k).filter p++[ab l k]:=by
 rw[ez h,List.filter_append,List.filter_cons,hp];rfl
def nv {α:Type} [Inhabited α] {p:α->Bool} {l:List α} {k:Nat} (h:k<l.length) (hp:p (ab l k)=false):(l.take (k+1)).filter p=(l.take k).filter p:=by
 rw[ez h,List.filter_append,List.filter_cons,hp];simp
def yY (e d:ao):([e.key,e.ar.time,e.ar.site]==[d.key,d.ar.time,d.ar.site])=decide (e=d):=by
 obtain⟨k,⟨t,s⟩⟩:=d;obtain⟨k',⟨t',s'⟩⟩:=e;rw[Bool.eq_iff_iff];simp
def PG {α:Type} [Inhabited α] {p:α->Bool} {l:List α} {k:Nat} (hk:k<l.length) (h:∀i,i<k->p (ab l i)=false) (hp:p (ab l k)=true):l.find? p=some (ab l k):=by
 rw[List.find?_eq_some_iff_getElem];refine⟨hp,k,hk,by simp[ab,hk],λj hj=>?_⟩;have kY:j<l.length:=by omega
 have:=h j hj;simpa[ab,kY] using this
def Bj (l:List ao) (d:ao):
 Fn prog 195 [bw l,d.av] (AV.int (fG l d)):=by
 refine Fn.go 19 func195 ntmps195 (λW I a U=>?_);have hle:=U.dE (t:=0) rfl;refine aN λI a w U=>?_;refine St.lo (σ:=Nat) (run 15 4 []) ⟨λk=>[(5,AV.int k)],λk=>[],λk=>k<=l.length/\∀i,i<k->(λe=>decide (e=d)) (ab l i)=false⟩ (λk=>l.length-k) 0 U ?aL ?bG;case aL=>exact⟨Nat.zero_le _,λi hi=>by omega⟩
 rintro k I a w al U;obtain⟨hk,aT⟩:=al;refine aY λI a w U=>?_;refine cz (λae=>?_) λae=>?_
 .refine zt ?_;refine U.dk ?_;refine fD ?_;refine .o (mq [_,_,_] [_,_,_] wq rfl rfl .tt .tt)<|.nil ?_;intro I a w U;refine bk ?_;refine U.cd (λah=>?_) λah=>?_
  .rw[yY] at ah;refine di ?_;exact fM (ng ae aT ah).symm
  rw[yY] at ah;refine aN λI a w U=>?_;exact U.ag (k+1) (⟨ae,λi h1=>by rcases Nat.lt_succ_iff_lt_or_eq.1 h1 with h|h;exact aT i h;rw[h];exact ah⟩)
 refine zt ?_;refine bc ?_;exact fM (mF om aT).symm
def PH (s:Server) (d:ao):
 Fn prog 225 [s.av,d.av] (AV.bool (iT s d)):=by
 refine Fn.go 22 func225 ntmps225 (λW I a U=>?_);have lens:s.aF.length<=9223372036854775807/\s.an.length<=9223372036854775807/\s.waits.length<=9223372036854775807/\s.aD.length<=9223372036854775807/\s.bj.length<=9223372036854775807:=⟨U.ln 0 2,U.ln 0 3,U.ln 0 4,U.ln 0 5,U.ln 0 6⟩;refine aY λI a w U=>?_;refine St.lo (σ:=Nat) (run 18 4 []) ⟨λk=>[(5,AV.int k)],λk=>[],λk=>k<=s.waits.length/\∀i,i<k->(λi=>!qN d (ab s.waits i)) i=true⟩ (λk=>s.waits.length-k) 0 U ?aL ?bG;case aL=>exact⟨Nat.zero_le _,λi hi=>by omega⟩
 rintro k I a w al U;obtain⟨rV,aT⟩:=al;refine ct λI a w U=>?_;refine cz (λae=>?_) λae=>?_
 .refine zt ?_;refine U.dk ?_;refine kJ ?_;refine .o (.cl (Bj ..)) ?_;refine aX ?_;refine .nil ?_;intro I a w U;refine bk ?_;refine cz (λah=>?_) λah=>?_
  .refine bc ?_;exact bF (by unfold iT;rw[fN (f:=λi=>!qN d (ab s.waits i)) ae (by unfold qN;simp;omega)];rfl)
  refine aN λI a w U=>?_;exact U.ag (k+1) (⟨by omega,gO aT (by unfold qN;simp;omega)⟩)
 refine zt ?_;refine bc ?_;exact bF (by unfold iT;rw[fJ aT om];rfl)
def Bk {α:Type} [Inhabited α] {R:α->α->Prop} {l:List α} (h:l.Pairwise R) {i j:Nat} (jA:i<j) (hj:j<l.length):R (ab l i) (ab l j):=by
 rw[List.pairwise_iff_getElem] at h;have:=h i j om hj jA;have e:∀k (hk:k<l.length),l[k]=ab l k:=λk hk=>by simp[ab,hk]
 rwa[e i om,e j hj] at this
def Y5 {a b d:aE} (h:gu a b=true) (h':gu b d=true):gu a d=true:=yW h h'
def yZ {α:Type} (l:List α) (n:Nat):(l.take n++l.drop (n+1)).Sublist l:=by
 have e:l=l.take n++l.drop n:=(List.take_append_drop n l).symm;conv=>rhs;rw[e]
 refine List.Sublist.append (List.Sublist.refl _) ?_;rw[<-List.drop_drop];exact List.drop_sublist 1 _
def PI {l:List aE} (h:VS l) {i j:Nat} (hi:i<l.length) (hj:j<l.length) (aZ:i≠j):(ab l i).bh≠(ab l j).bh:=λe=>by
 rcases Nat.lt_or_gt_of_ne aZ with bK|bK
 .have:=Bk h bK hj;unfold gu at this;rw[e,Be] at this;cases this
 have:=Bk h bK hi;unfold gu at this;rw[e,Be] at this;cases this
def Y6 {α:Type} [Inhabited α] {l:List α} {n:Nat} {x:α} (h:x∈l.take n++l.drop (n+1)):∃k,k<l.length/\k≠n/\ab l k=x:=by
 rcases List.mem_append.1 h with h|h
 .obtain⟨k,hk,rfl⟩:=List.getElem_of_mem h;have eX:k<n/\k<l.length:=by simp at hk;omega
  exact⟨k,eX.2,by omega,by simp[ab,eX.2]⟩
 obtain⟨k,hk,rfl⟩:=List.getElem_of_mem h;have eX:n+1+k<l.length:=by simp at hk;omega
 exact⟨n+1+k,eX,by omega,by simp[ab,eX]⟩
def qP {α:Type} {p:α->Bool} {l:List α} {x:α} (h:x∈l.filter p):x∈l:=(List.mem_filter.1 h).1
def eM.PJ {s:Server} (h:eM s) {d:ao} (hl:s.bj.length<80):eM {s with bj:=eF s.bj d}:=⟨h.aF,h.an,h.waits,h.apart,by have:=PB s.bj d;show(eF s.bj d).length<=80;omega⟩
def eM.Y7 {s:Server} (h:eM s) {x:List cG} (hx:x.length=3):eM {s with aF:=x}:=⟨hx,h.an,h.waits,h.apart,h.bj⟩
def PK {l:List ao} {d:ao} (h:0<=fG l d):(fG l d).toNat<l.length:=by
 unfold fG dm at*;split at h
 .rename_i k hk;obtain⟨h1,_⟩:=List.findIdx?_eq_some_iff_getElem.1 hk;simpa using h1
 omega
def nx {m:az} (h:bM m=true):bY m.an=true/\bY m.waits=true/\fY m.aD=true/\bN m.aR=true:=by
 simp only[bM,Bool.and_eq_true] at h;exact⟨h.1.1.2,h.1.2,h.2,h.1.1.1.1.1.2⟩
def PL {l:List aE} {v:aE} {d:ao} (h:∃x∈l,x.bh=d):∃x∈eE l v,x.bh=d:=let⟨x,hx,e⟩:=h;⟨x,iL.2 (.inr hx),e⟩
def DY:∀{l:List ao} {d x:ao},x∈kq l d↔x=d\/x∈l
 |[],d,x=>by simp[kq]
 |e::r,d,x=>by
  unfold kq;split
  .simp
  rw[List.mem_cons,DY,List.mem_cons];constructor
  .rintro(h|h|h)<;>simp[h]
  rintro(h|h|h)<;>simp[h]
def PM:∀{l:List ao} {d:ao},(l.Pairwise λa b=>ee a b=true)->(∀x∈l,x≠d)->(kq l d).Pairwise λa b=>ee a b=true
 |[],d,_,_=>by simp[kq]
 |e::r,d,h,hn=>by
  unfold kq;rw[List.pairwise_cons] at h;split
  .rename_i hl;rw[List.pairwise_cons];refine⟨λx hx=>?_,List.pairwise_cons.2 h⟩;rcases List.mem_cons.1 hx with rfl|hx
   .exact hl
   exact yW hl (h.1 x hx)
  rename_i hl;rw[List.pairwise_cons];refine⟨λx hx=>?_,PM h.2 λx hx=>hn x (by simp[hx])⟩;rcases DY.1 hx with rfl|hx
  .cases hd:ee e x with
   |true=>rfl
   |false=>exact absurd (DT hd (by simpa using hl)) (hn e bt)
  exact h.1 x hx
def ny {m:az} (h:bM m=true):(1<=m.kind/\m.kind<=10)/\lF m.aU=true/\lF m.to=true/\(0<=m.call/\m.call<=99)/\df m.key=true/\ld m.ar=true/\(0<=m.val/\m.val<=9999)/\bN m.aR=true/\(0<=m.slot/\m.slot<=2)/\(0<=m.bf/\m.bf<=9999)/\bY m.an=true/\bY m.waits=true/\fY m.aD=true:=by
 simp only[bM,Bool.and_eq_true,aS,decide_eq_true_eq] at h;obtain⟨⟨⟨⟨⟨⟨⟨⟨⟨⟨⟨⟨a1,a2⟩,a3⟩,a4⟩,a5⟩,a6⟩,a7⟩,a8⟩,a9⟩,wQ⟩,Bl⟩,HM⟩,HN⟩:=h;exact⟨a1,a2,a3,a4,a5,a6,a7,a8,a9,wQ,Bl,HM,HN⟩
def Bm {s:cw} (h:dr s=true):ld s=true:=by unfold ld;rw[h];simp
def Y8 {s:Server} {asked:List ao} {d x:ao} (h:x∈mO s asked d):x∈asked\/x=d:=by
 unfold mO at h;split at h
 .exact .inl h
 rcases List.mem_append.1 h with h|h
 .exact .inl h
 exact .inr (by simpa using h)
def PN {s:Server}:∀{l asked:List ao} {x:ao},x∈l.foldl (mO s) asked->x∈asked\/x∈l
 |[],_,_,h=>.inl h
 |d::r,asked,x,h=>by
  rcases PN (l:=r) h with h|h
  .rcases Y8 h with h|h
   .exact .inl h
   exact .inr (by simp[h])
  exact .inr (by simp[h])
def uX {m:az} (h:bM m=true):0<=m.aU/\m.aU<=11/\0<=m.to/\m.to<=11:=by
 have p:=ny h;have h1:=p.2.1;have h2:=p.2.2.1;simp only[lF,cO,aS,Bool.or_eq_true,Bool.and_eq_true,decide_eq_true_eq] at h1 h2;omega
def Y9 {a b:ao} (h:ee a b=true):ee b a=false:=by
 cases h2:ee b a
 .rfl
 have:=yW h h2;rw[Be] at this;cases this
def PO (l:List aE) (v:aE):(!ef v||decide (0<=placeOf l v.bh)||((l.length:Int)==80))=!(ef v&&decide (placeOf l v.bh<0)&&!decide (l.length=80)):=by
 have e:((l.length:Int)==80)=decide (l.length=80):=by rw[Bool.eq_iff_iff];simp;omega
 have e2:decide (0<=placeOf l v.bh)=!decide (placeOf l v.bh<0):=by rw[Bool.eq_iff_iff];simp
 rw[e,e2];simp
def Za (l:List ao) (d:ao):
 Fn prog 236 [bw l,d.av] (AV.int (fG l d)):=by
 refine Fn.go 19 func236 ntmps236 (λW I a U=>?_);have hle:=U.dE (t:=0) rfl;refine ct λI a w U=>?_;refine St.lo (σ:=Nat) (run 2 4 (run 11 8 [])) ⟨λk=>[(8,AV.int k)],λk=>[],λk=>k<=l.length/\∀i,i<k->(λe=>decide (e=d)) (ab l i)=false⟩ (λk=>l.length-k) 0 U ?aL ?bG;case aL=>exact⟨Nat.zero_le _,λi hi=>by omega⟩
 rintro k I a w al U;obtain⟨hk,aT⟩:=al;refine ax λI a w U=>?_;refine cz (λae=>?_) λae=>?_
 .refine aB λI a w U=>?_;refine U.dk ?_;refine fD ?_;refine .o (mq [_,_,_] [_,_,_] wq rfl rfl .tt .tt)<|.nil ?_;intro I a w U;refine bk ?_;refine U.cd (λah=>?_) λah=>?_
  .rw[yY] at ah;rw[decide_eq_true_eq] at ah;refine di ?_;exact fM (ng ae aT (decide_eq_true ah.symm)).symm
  rw[yY] at ah;rw[decide_eq_false_iff_not] at ah;refine aB λI a w U=>?_;exact U.ag (k+1) (⟨ae,λi h1=>by rcases Nat.lt_succ_iff_lt_or_eq.1 h1 with h|h;exact aT i h;rw[h];exact decide_eq_false λe=>ah e.symm⟩)
 refine zt ?_;refine bc ?_;exact fM (mF om aT).symm
def Bn (l:List ao) (d:ao):
 Fn prog 207 [bw l,d.av] (AV.bool (decide (0<=fG l d))):=by
 refine Fn.go 9 func207 ntmps207 (λW I a U=>?_);refine bz λI a w U=>?_;refine U.o (.cl (Za ..)) λU=>?_;refine di ?_;rfl
def PQ (v:aE) (d:ao):
 Fn prog 260 [v.av,AV.ptr d.cells] (AV.bool (qN d v)):=by
 refine Fn.go 8 func260 ntmps260 (λW I a U=>?_);refine bO λI a w U=>?_;refine U.o (.cl (Bn ..)) λU=>?_;refine bc ?_;rfl
def ey {α:Type} [Inhabited α] {f:α->List AV} {l:List α} {i:Nat} (h:i<l.length):(l.map f)[i]?=some (f (ab l i)):=by rw[List.getElem?_map,MF h];rfl
def DZ {α:Type} [Inhabited α] {p:α->Bool} {l:List α} (h:0<=dm p l):(dm p l).toNat<l.length/\p (ab l (dm p l).toNat)=true/\∀i,i<(dm p l).toNat->p (ab l i)=false:=by
 unfold dm at*;split at h
 .rename_i k hk;obtain⟨h1,h2,h3⟩:=List.findIdx?_eq_some_iff_getElem.1 hk;refine⟨by simpa using h1,by simpa[ab,h1] using h2,λi hi=>?_⟩;have qp:i<k:=by simpa using hi
  have jE:i<l.length:=by omega
  have:=h3 i qp;simpa[ab,jE] using this
 omega
def kp {α:Type} (p:α->Bool) (l:List α) (j:Nat):List α:=(l.take j).filter λd=>!p d
def PR (s:Server) (v:aE) (h1:bY s.an=true) (h2:bY s.waits=true):(!(j6 s.an ⟨v.key,v.ar⟩).isSome&&!(j6 s.waits ⟨v.key,v.ar⟩).isSome)=decide (placeOf s.an v.bh<0/\placeOf s.waits v.bh<0):=by
 rw[yV h1,yV h2,Bool.eq_iff_iff];show _↔decide (placeOf s.an ⟨v.key,v.ar⟩<0/\placeOf s.waits ⟨v.key,v.ar⟩<0)=true;simp
def D0 {l vs:List aE} {k:Nat} (h:k<vs.length):iU l (vs.take (k+1))=gS (iU l (vs.take k)) (ab vs k):=Bg h
def HO (l vs:List aE) (k:Nat):(iU l (vs.take k)).length<=l.length+k:=by
 have h1:=HJ (vs.take k) l;have h2:(vs.take k).length<=k:=by simp;omega
 unfold iU;omega
def PS:∀(ds l:List ao),(ds.foldl eF l).length<=l.length+ds.length
 |[],l=>by simp
 |d::r,l=>by have h1:=PS r (eF l d);have h2:=PB l d;simp only[List.foldl_cons,List.length_cons];omega
def PT (l ds:List ao) (k:Nat):((ds.take k).foldl eF l).length<=l.length+k:=by
 have h1:=PS (ds.take k) l;have h2:(ds.take k).length<=k:=by simp;omega
 omega
def PU:∀{vs l:List aE} {x:aE},x∈l->x∈vs.foldl gS l
 |[],l,x,h=>h
 |v::vs,l,x,h=>by
  refine PU (vs:=vs) ?_;unfold gS;split
  .exact iL.2 (.inr h)
  exact h
def Zb {l vs:List aE} (hl:∀v∈l,v.aR.length<=6) (hv:∀v∈vs,v.aR.length<=6) (k:Nat):∀v∈iU l (vs.take k),v.aR.length<=6:=
 PE (λv h=>hv v (List.mem_of_mem_take h)) hl
def Server.Zc (s:Server) (x:AV):AV:=.agg [.int s.site,.bool s.up,s7 s.aF,bQ s.an,bQ s.waits,bw s.aD,x]
def Zd (s:Server):(s.bj.filter λd=>!(!iT s d))=s.bj.filter (iT s):=by simp
def mQ (s:Server) (i:Nat):List ao:=((s.waits.take i).map aE.aR).flatten.foldl (mO s) []
def ji (s:Server) (i j:Nat):List ao:=((ab s.waits i).aR.take j).foldl (mO s) (mQ s i)
def y6 {s:Server} {i j:Nat} (h:j<(ab s.waits i).aR.length):ji s i (j+1)=mO s (ji s i j) (ab (ab s.waits i).aR j):=by
 unfold ji;rw[ez h,List.foldl_append];rfl
def HP {s:Server} {i j:Nat} (h:i<s.waits.length) (hj:(ab s.waits i).aR.length<=j):ji s i j=mQ s (i+1):=by
 unfold ji mQ;rw[List.take_of_length_le hj,ez h,List.map_append,List.flatten_append,List.foldl_append];simp
def HQ (s:Server) {i:Nat} (h:s.waits.length<=i):mQ s i=Bi s:=by unfold mQ Bi;rw[List.take_of_length_le h]
def Ze (s:Server) (l:List ao) (d:ao):(mO s l d).length<=l.length+1:=by unfold mO;split<;>simp
def PV (s:Server):∀(l asked:List ao),(l.foldl (mO s) asked).length<=asked.length+l.length
 |[],asked=>by simp
 |d::r,asked=>by have:=PV s r (mO s asked d);have:=Ze s asked d;simp only[List.foldl_cons,List.length_cons];omega
def Bo (s:Server) (i j:Nat):(ji s i j).length<=(mQ s i).length+j:=by
 have h1:=PV s ((ab s.waits i).aR.take j) (mQ s i);have h2:((ab s.waits i).aR.take j).length<=j:=by simp;omega
 unfold ji;omega
def PW {s:Server} {l:List ao} {d:ao} (h:(!l6 s d&&decide (fG l d<0))=false):mO s l d=l:=by
 unfold mO;rw[if_pos];rw[Bool.or_eq_true,decide_eq_true_eq];rw[Bool.and_eq_false_iff,Bool.not_eq_false',decide_eq_false_iff_not] at h;rcases h with h|h
 .exact .inl h
 exact .inr om
def D1 {s:Server} {l:List ao} {d:ao} (h:(!l6 s d&&decide (fG l d<0))=true):mO s l d=l++[d]:=by
 unfold mO;rw[if_neg];rw[Bool.or_eq_true,decide_eq_true_eq];rw[Bool.and_eq_true,Bool.not_eq_true',decide_eq_true_eq] at h;rw[h.1];simp;omega
def wR (k t c:Int) (st:cw) (v:Int) (sl e:Int):jU ⟨k,0,0,c,t,st,v,false,[],sl,e,[],[],[]⟩:=⟨Nat.zero_le _,⟨Nat.zero_le _,λ_ h=>by cases h⟩,⟨Nat.zero_le _,λ_ h=>by cases h⟩,Nat.zero_le _⟩
def wS (key:Int):az:={cn with kind:=3,key:=key}
def pX (q:Call) (a:Answer) (k:Nat):List Answer:=if a.bm.bh∈q.aO.take k then q.aA.set (cB q a.key).toNat a else q.aA
def HR (a:Act):Nat:=match a.tmps.getD 3 undef with|.int _ x=>(x+1).toNat|_=>0
def PX {c:Ctx} {I:Im} {H:List Own} {Γ:Env} {a:Act} {w:World} {k:Nat} (U:St c I H Γ a w) (h:Env.get 3 Γ=some (.int ((k:Int)-1)):=by rfl):HR a=k:=by
 have:=U.env 3 _ h;unfold HR;rw[show a.tmps.getD 3 undef=_ from this];simp
def HT (r:List Value):List AV:=[.val (r.getD 0 undef),.val (r.getD 1 undef),.val (r.getD 2 undef),.val (r.getD 3 undef),.val (r.getD 4 undef),.val (r.getD 5 undef),.val (r.getD 6 undef)]
def PY {r:List Value} (h:r.length=7):r.map AV.val=HT r:=by
 match r,h with
 |[a,b,c,d,e,f,g],_=>rfl
def Zf {a b c:Bool} (h:(a&&c)=true) (k:b=true):(a&&b&&c)=true:=by rw[Bool.and_right_comm,h,k];rfl
def wT {k m:Int} (hk:0<=k) (hm:0<m):0<=k/m/\k/m<=k:=⟨Int.ediv_nonneg hk om,Int.ediv_le_self _ hk⟩
def gA (x:Int):Prop:=-4611686018427387904<=x/\x<=4611686018427387904
def Ev.y7 (e:Ev):Prop:=∀x∈e.ints,gA x
structure dC where
 w:aI
 list:List Ev
 lv:Value
def HU (x:UInt8):List AV:=[AV.byte x]
def cg (l:List UInt8):AV:=.rows 1 (l.map HU)
def Zg {bs:List UInt8} {n:Int} (h:(decide (n<1)||((bs.length:Int)==0))=false):¬(n<1\/bs.length=0):=by
 simp only[Bool.or_eq_false_iff,decide_eq_false_iff_not,beq_eq_false_iff_ne,ne_eq] at h;omega
def dL (w:aI) (i:Nat) (s:Server):aI:={w with aw:=w.aw.set i s}
def HV (w:aI) (i:Nat) (s t:Server):dL (dL w i s) i t=dL w i t:=by unfold dL;simp[List.set_set]
def Zh {l:List ao} {d:ao} (h:0<=fG l d):ab l (fG l d).toNat=d:=by
 unfold fG dm at*;split at h
 .rename_i k hk;obtain⟨h1,h2,_⟩:=List.findIdx?_eq_some_iff_getElem.1 hk;simpa[ab,h1] using h2
 omega
def D2 {x y z:cw} (h:ck y x=false) (h':ck z y=false):ck z x=false:=by
 obtain⟨t,s⟩:=x;obtain⟨t',s'⟩:=y;obtain⟨t2,s2⟩:=z;simp[ck] at*;omega
def Bp (x:cw):ck x x=false:=by simp[ck]
def PZ {l:List Call} {i:Nat} {x:Int} (h:0<=j5 l i x):i+1+(j5 l i x).toNat<l.length/\(ab l (i+1+(j5 l i x).toNat)).aq=x:=by
 unfold j5 dm at*;split at h
 .rename_i k hk;obtain⟨h1,h2,_⟩:=List.findIdx?_eq_some_iff_getElem.1 hk;rw[List.length_drop] at h1;rw[List.getElem_drop] at h2;refine⟨by rw[Int.toNat_natCast];omega,?_⟩;have e:l[i+1+k]=ab l (i+1+k):=by simp[ab,show i+1+k<l.length by omega]
  rw[e] at h2;rw[Int.toNat_natCast];simpa[yU] using h2
 omega
def HW {l:List Call} {i:Nat} {x:Int} (h:∀j,i<j->j<l.length->(ab l j).aq≠x):j5 l i x<0:=by
 rcases Int.lt_or_le (j5 l i x) 0 with h0|h0
 .exact h0
 obtain⟨h1,h2⟩:=PZ h0;exact absurd h2 (h _ om h1)
end Go.Proofs.YtdanidpleofjgaaGreat
