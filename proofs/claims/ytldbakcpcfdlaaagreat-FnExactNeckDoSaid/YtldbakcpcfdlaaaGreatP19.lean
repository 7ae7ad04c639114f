/- Part 19: contracts of functions, plain facts. -/
import Derived.Test.YtldbakcpcfdlaaaGreatP13
import Derived.Test.YtldbakcpcfdlaaaGreatP14
import Derived.Test.YtldbakcpcfdlaaaGreatP15
import Derived.Test.YtldbakcpcfdlaaaGreatP16
set_option linter.all false
set_option maxRecDepth 100000
set_option maxHeartbeats 4000000
namespace Go.Proofs.YtldbakcpcfdlaaaGreat
open Go Go.RowKit Tryz
attribute [local irreducible] wpList Code.wp Ok
def Oy (s:cG):
 Fn prog 147 [s.av] (AV.bool (kr s)):=by
 refine Fn.go 9 func147 ntmps147 (λW I a U=>?_);refine aV λI a w U=>?_;refine U.o (.c1 (uV ..)) λU=>?_;refine aA λI a w U=>?_;refine U.q .F (.cl (xe ..)) λU=>?_;refine cK ?_;rfl
def Oz (n:Int) (hn:db n):
 Fn prog 145 [AV.int n] (AV.bool (l5 n)):=by
 refine Fn.go 10 func145 ntmps145 (λW I a U=>?_);refine aA λI a w U=>?_;refine U.o (.c1 (qH ..)) λU=>?_;refine aA λI a w U=>?_;refine U.q .F (Qv (.g rfl (λh=>h)) .c) λU=>?_;refine U.q .F (.cl (zP ..)) λU=>?_;refine cK ?_;exact bT (by rw[VW hn,U3];rfl)
def pK {l:List ao} (h:ck l=true) {d:ao} (hd:d∈l):kh d=true:=by
 have:=Gv h d hd;simp[kh,dp,aS,this.2.2];omega
def Hj (c:Call):List ao:=if c.end_=0 then c.ctx else if c.kind=1 then gT c.ctx ⟨ae c.keys 0,c.aw⟩ else c.au.foldl qB (ji c.ctx (fw c))
def C0 {l:List cG} (h:∀s∈l,dB s=true) (k:Nat):0<=nI (l.take k)/\nI (l.take k)<=9999:=GJ om om λs U=>h s (List.mem_of_mem_take U)
def gE (s:Server) (slot:Int):az:=
 {cg with kind:=9,bj:=s.site,to:=fH s.site,slot:=slot,bX:=(ae s.aQ slot.toNat).bX,ar:=s.ar.filter (fG slot),waits:=s.waits.filter (fG slot),aE:=s.aE.filter (gC slot)}
def jY (s:Server) (d:ao):List az:=
 if eY s d.key==1 then[{cg with kind:=5,bj:=s.site,to:=2-2*cv s.site,ar:=(jm s.ar d).toList},{cg with kind:=5,bj:=s.site,to:=2-2*cv s.site+1,ar:=(jm s.ar d).toList}] else[]
def eF (s:Server) (slot:Int):Server×az×Bool:=if mn s slot then(pA s slot,gE (pA s slot) slot,true) else(s,cg,false)
def pL (w:aM) (e:Ev):Call:={Cg with aB:=e.aB,num:=rQ w.calls e.aB+1,kind:=e.call,keys:=mZ e,val:=if e.call=1 then e.val else 0,ctx:=ae w.seen e.aB.toNat,bw:=w.time}
def YF (l:List ao):
 Fn prog 71 [bm l] (AV.bool (uN l)):=by
 refine Fn.go 6 func71 ntmps71 (λW I a U=>?_);refine aA λI a w U=>?_;refine U.o (.cl (Aa ..)) λU=>?_;refine cK ?_;rfl
def YG (l:List aJ) (v:aJ) (h:l.length<=1048575) (hd:∀u∈l,u.aK.length<=1048576) (hv:v.aK.length<=1048576):
 Fn prog 102 [cm l,v.av] (cm (pj l v)):=by
 refine Fn.go 46 func102 ntmps102 (λW I a U=>?_);refine ax λI a w U=>?_;refine U.l0 λb8 I a w U=>?_;refine aI λI a w U=>?_;refine St.lo (σ:=Nat×Bool×List aJ×Value) (run 3 5 (run 29 9 [])) ⟨λ⟨k,done,out,u⟩=>[(7,AV.int k),(6,AV.bool done),(5,AV.val u)],λ⟨k,done,out,u⟩=>[Own.row u 54 7 (out.map aJ.cells)],λ⟨k,done,out,u⟩=>ma l v k done out⟩ (λ⟨k,done,out,u⟩=>l.length-k) (0,false,[],.slice (some ⟨b8,0,none⟩) 0 0) U ?aD ?bh;case aD=>exact ma.zero l v
 rintro⟨k,done,out,u⟩ I a w aj U;have hp:ma l v k done out:=aj;have hk:=hp.hk;have jM:=hp.len;have qc:done.toNat<=1:=by cases done<;>simp
 dsimp only at U;refine aU λI a w U=>?_;refine cz (λab=>?_) λab=>?_
 .refine zt ?_;refine U.dk ?_;refine kz ?_;refine .q .T (.cl (LI ..)) ?_;refine br ?_;refine .nil ?_;intro I a w U;refine ba ?_;refine cz (λah=>?_) λah=>?_
  .refine aA λI a w U=>?_;refine U.o (.c1 (ou v hv)) λU=>?_;refine U.o (.li [v.cells] j9 (.u .nil)) λU=>?_;refine U.ap 0 λtD a w U=>?_;rw[cA] at U;refine fm λI a w U=>?_;refine U.o (.c1 (ou (ae l k) (hd _ (bK ab)))) λU=>?_;refine U.o (.li [(ae l k).cells] j9 (.u .nil)) λU=>?_;refine U.ap 0 λAq a w U=>?_;rw[cA] at U;refine aU λI a w U=>?_;exact U.ag (k+1,true,(out++[v])++[ae l k],Aq) (by obtain⟨h1,h2⟩:=ah;subst h1;exact hp.before ab h2)
  refine bV λI a w U=>?_;refine U.o (.c1 (ou (ae l k) (hd _ (bK ab)))) λU=>?_;refine U.o (.li [(ae l k).cells] j9 (.u .nil)) λU=>?_;refine U.ap 0 λAq a w U=>?_;rw[cA] at U;refine aU λI a w U=>?_;exact U.ag (k+1,done,out++[ae l k],Aq) (hp.step ab (by simpa using ah))
 refine zt ?_;refine ax λI a w U=>?_;refine cz (λai=>?_) λai=>?_
 .refine aA λI a w U=>?_;refine U.o (.c1 (ou v hv)) λU=>?_;refine U.o (.li [v.cells] j9 (.u .nil)) λU=>?_;refine U.ap 0 λtp a w U=>?_;rw[cA] at U;refine aI λI a w U=>?_;obtain⟨I,U⟩:=U.fr 0 4;refine U.rt ?_;exact congrArg (AV.rows 7) (by subst ai;exact hp.rZ om▸rfl)
 refine ax λI a w U=>?_;obtain⟨I,U⟩:=U.fr 0 4;refine U.rt ?_;exact congrArg (AV.rows 7) (by subst ai;rw[hp.rY om])
def C1 (x:aM):Prop:=(x.aF.length<=1048576/\∀s∈x.aF,po s)/\(x.aC.length<=1048576/\∀m∈x.aC,iV m)/\(x.calls.length<=1048576/\∀q∈x.calls,uO q)/\x.seen.length<=1048576/\∀l∈x.seen,l.length<=1048576
def YH (n:Int) (l:List cG) (hn:de n=true) (hl:∀s∈l,dB s=true):
 Fn prog 335 [AV.int n,AV.rows 2 (l.map cG.cells)] (AV.c8 [(pw n l).av,AV.bool (jj l)]):=by
 refine Fn.go 44 func335 ntmps335 (λW I a U=>?_);have hle:=U.dD (t:=1) rfl;refine sr<|U.alloc rfl jg iI λb4 I a w U=>?_;refine aA λI a w U=>?_;refine U.o (.c1 (qw ..)) λU=>?_;refine al λI a w U=>?_;refine U.cd (λab=>?_) λab=>?_
 .exfalso;rw[hn] at ab;cases ab;skip
 refine ax λI a w U=>?_;refine St.lo (σ:=Nat) (run 3 5 (run 25 12 [])) ⟨λk=>[(7,AV.int k),(6,AV.int (nI (l.take k)))],λk=>[Own.box b4 42 [AV.val (.int .i64 0),AV.val (.int .i64 0)]],λk=>k<=l.length⟩ (λk=>l.length-k) 0 U ?aD ?bh;case aD=>exact Nat.zero_le _
 rintro k I a w aj U;have hk:k<=l.length:=aj;refine aU λI a w U=>?_;refine cz (λah=>?_) λah=>?_
 .refine aR λI a w U=>?_;refine U.o (.c1 (uL ..)) λU=>?_;refine al λI a w U=>?_;refine U.cd (λai=>?_) λai=>?_
  .exfalso;simp only[B] at ai;rw[hl _ (bK ah)] at ai;cases ai;skip
  refine fW λI a w U=>?_;refine cz (λaG=>?_) λaG=>?_
  .refine iG λI a w U=>?_;refine U.again (k+1) ?bM ?bN bF ?bO (by repeat(first|exact Env.le_rfl|refine Env.dj rfl ?_));case bM=>omega
   case bN=>exact ah
   case bO=>exact(Env.bt rfl bF (Env.bt rfl (by first|exact congrArg AV.int (by rw[zI ah,if_pos aG])|exact congrArg AV.int (by rw[zI ah,if_neg om])) Env.le_nil))
  refine aI λI a w U=>?_;refine U.again (k+1) ?nF ?nG bF ?nH (by repeat(first|exact Env.le_rfl|refine Env.dj rfl ?_));case nF=>omega
  case nG=>exact ah
  case nH=>exact(Env.bt rfl bF (Env.bt rfl (by first|exact congrArg AV.int (by rw[zI ah,if_pos aG])|exact congrArg AV.int (by rw[zI ah,if_neg om])) Env.le_nil))
 refine zt ?_;refine ax λI a w U=>?_;refine cz (λaL=>?_) λaL=>?_
 .refine zt ?_;refine U.o (.bd iI bf.nil) λU=>?_;refine ax λI a w U=>?_;rw[List.take_of_length_le om] at aL;refine U.ret rfl (.cons (.sx 0) (.cons (.t rfl) aZ.nil)) ?_;have e:jj l=false:=by unfold jj;simp;omega
  exact(by unfold pw;rw[e];rfl)
 refine aX λI a w U=>?_;refine U.o (cr .tt .c (λ_=>by have:=C0 hl k;omega)) λU=>?_;refine U.m λU=>?_;refine U.o (.bd iI (.k (.k bf.nil))) λU=>?_;refine ax λI a w U=>?_;rw[List.take_of_length_le om] at aL;refine U.ret rfl (.cons (.sx 0) (.cons (.t rfl) aZ.nil)) ?_;have e:jj l=true:=by unfold jj;simp;omega
 exact(by unfold pw;rw[e,List.take_of_length_le om];rfl)
def OA {l:List ao} {d:ao} (h:fU l=true) (hd:kt d=true) (hl:l.length<80):fU (eN l d)=true:=by
 obtain⟨h1,h2,h3⟩:=wN.1 h;unfold eN;split
 .exact h
 rename_i hn;refine wN.2 ⟨by rw[LY];omega,λx hx=>?_,Nv h3 λx hx e=>hn (wZ.2 (e▸hx))⟩;rcases CJ.1 hx with rfl|hx
 .exact hd
 exact h2 x hx
def Hk {l:List ao} (h:ck l=true):∀d∈l,kt d=true:=λd hd=>pK h hd
def YI {site:Int} {l:List cG} (hn:de site=true) (hl:∀s∈l,dB s=true) (ho:jj l=true):dB (pw site l)=true/\(pw site l).site=site/\∀s∈l,s.time<(pw site l).time:=by
 have hr:=C0 hl l.length;rw[List.take_length] at hr;have hm:nI l<9999:=by simpa[jj] using ho
 have hle:∀(l:List cG) (t:Int),t<=l.foldl (λt s=>if t<s.time then s.time else t) t/\∀s∈l,s.time<=l.foldl (λt s=>if t<s.time then s.time else t) t:=by
  intro l;induction l with
  |nil=>intro t;simp
  |cons a r ih=>
   intro t
   rw[List.foldl_cons]
   have h1:=ih (if t<a.time then a.time else t)
   have h2:t<=(if t<a.time then a.time else t)/\a.time<=(if t<a.time then a.time else t):=by split<;>omega
   refine⟨by omega,λs U=>?_⟩
   rcases List.mem_cons.1 U with rfl|U
   .omega
   exact h1.2 s U
 unfold pw;rw[ho,if_pos rfl];refine⟨by simp[dB,aS,hn];omega,rfl,λs U=>?_⟩;have:=(hle l 0).2 s U;show s.time<nI l+1;unfold nI;omega
def Hl {s:Server} {m:az} (h:bE s) (hm:bY m=true):∀x∈jC s m,dB x=true:=by
 intro x hx;unfold jC at hx;rcases List.mem_append.1 hx with hx|hx
 .obtain⟨d,hd,rfl⟩:=List.mem_map.1 hx;have:=Hk (oE hm).2.2.2.2.2.2.2.1 d hd;simp only[kt,Bool.and_eq_true] at this;exact this.2
 split at hx
 .rename_i v hv;obtain rfl:x=v.aw:=by simpa using hx
  exact(kT (g7 h.ar v (Gw hv).1)).2.1
 simp at hx
def bE.YJ {s:Server} (h:bE s) {d:ao} (hd:kt d=true) (hl:s.bq.length<80) (hu:s.up=true):bE {s with bq:=eN s.bq d}:=
 ⟨h.site,h.aQ,h.ar,h.waits,h.aE,OA h.bq hd hl,(λe=>by rw[hu] at e;cases e),h.cX,h.here,h.oe,h.og,h.apart,h.oh⟩
def YK {s:Server} {m:az} (h:bE s) (hu:s.up=true):bE (oC s m):=by
 unfold oC;split
 .rename_i hc;simp only[Bool.and_eq_true,decide_eq_true_eq] at hc;obtain⟨v,hv,hd⟩:=V4.1 hc.1.2;exact(h.YJ (Hk (kT (g7 h.waits v hv)).2.2 _ hd) hc.2 hu).settle
 exact h
def YL {s:Server} {m:az} (h:bE s) (hm:bY m=true):bE (s7 s m):=by
 have U:=(oE hm).2.2.2.2.2.2.2.2;refine(h.eJ m.slot).L3 U.1.1 ?_ (λv hv e=>absurd e (Mw.1 v hv)) (λv hv e=>absurd e (Mw.2 v hv)) om;rw[vb];exact⟨U.2.1.1,U.2.1.2,by simp,by simp,λe=>absurd rfl e⟩
def YM {s:Server} {m:az} (h:bE s) (hm:bY m=true):bE (oD s m):=by
 unfold oD;split
 .exact(YL h hm).settle
 exact h
def C2 {s:Server} {slot:Int} (h:bE s) (hk:mn s slot=true):bE (pA s slot):=by
 obtain⟨_,h1,h2,h3,h4⟩:=zL hk;have hg:=vb.1 (CK h (i:=slot.toNat) om);refine h.L3 h1 ?_ (λv _ _=>by simp) (λv _ _=>by simp) om;rw[vb];exact⟨by simp;omega,by simp;omega,by simp,by simp,λ_=>by simp;omega⟩
def YN {s:Server} (h:bE s) {d:ao}:∀w∈jY s d,bY w=true:=by
 have U:=GO h.site;have key:∀k:Int,0<=k->k<=1->bY {cg with kind:=5,bj:=s.site,to:=2-2*cv s.site+k,ar:=(jm s.ar d).toList}=true:=λk h1 h2=>
  sd ⟨by simp,by simp⟩ (oH h.site) (oH (mu.2 ⟨by simp;omega,by simp;omega⟩)) ⟨by simp[cg],by simp[cg]⟩ GN Af ⟨by simp[cg],by simp[cg]⟩ qI ⟨by simp[cg],by simp[cg]⟩ ⟨by simp[cg],by simp[cg]⟩ (Nw λv hv=>g7 h.ar v (M7 hv).1) oI ve
 unfold jY;split
 .intro w hw;rcases List.mem_cons.1 hw with rfl|hw
  .have:=key 0 om om;rwa[Int.add_zero] at this
  obtain rfl:w=_:=by simpa using hw
  exact key 1 om om
 intro w hw;simp at hw
def YO {s:Server} (h:bE s):∀d∈zQ s,kt d=true:=by
 intro d hd;rcases Mx hd with hd|hd
 .simp at hd
 obtain⟨ds,h1,h2⟩:=List.mem_flatten.1 hd;obtain⟨v,hv,rfl⟩:=List.mem_map.1 h1;exact Hk (kT (g7 h.waits v hv)).2.2 d h2
def YP {n:Int} (h:de n=true):rr n 1=fH n:=by
 have:=mu.1 h;obtain rfl|rfl|rfl|rfl:n=0\/n=1\/n=2\/n=3:=by omega
 all_goals rfl
def Hm (n:Int) (h:de n=true):
 Fn prog 294 [AV.int n] (AV.int (fH n)):=by
 refine Fn.go 5 func294 ntmps294 (λW I a U=>?_);refine aA λI a w U=>?_;refine U.o (R0 .tt .c (λ_=>by have:=mu.1 h;omega)) λU=>?_;refine aW ?_;exact cj (YP h)
def YQ (n:Int) (l:List cG) (hn:de n=true) (hl:∀s∈l,dB s=true):
 Fn prog 358 [AV.int n,AV.rows 2 (l.map cG.cells)] (AV.c8 [(pw n l).av,AV.bool (jj l)]):=by
 refine Fn.go 36 func358 ntmps358 (λW I a U=>?_);have hle:=U.dD (t:=1) rfl;refine sr<|U.alloc rfl jg iI λb4 I a w U=>?_;refine bP λI a w U=>?_;refine St.lo (σ:=Nat) (run 2 5 (8::(run 13 11 []))) ⟨λk=>[(11,AV.int k),(6,AV.int (nI (l.take k)))],λk=>[Own.box b4 42 [AV.val (.int .i64 0),AV.val (.int .i64 0)]],λk=>k<=l.length⟩ (λk=>l.length-k) 0 U ?aD ?bh;case aD=>exact Nat.zero_le _
 rintro k I a w aj U;have hk:k<=l.length:=aj;refine al λI a w U=>?_;refine cz (λab=>?_) λab=>?_
 .refine aA λI a w U=>?_;refine U.alloc rfl jg iI λb8 I a w U=>?_;refine al λI a w U=>?_;obtain⟨I,U⟩:=U.fb 1 8;refine U.o .la λU=>?_;refine U.o (.c1 (xe ..)) λU=>?_;refine al λI a w U=>?_;refine U.cd (λah=>?_) λah=>?_
  .exfalso;simp only[B] at ah;rw[hl _ (bK ab)] at ah;cases ah;skip
  refine aV λI a w U=>?_;refine U.o (Tu .tt .tt) λU=>?_;refine aI λI a w U=>?_;have U:=U.drop 1;refine U.again (k+1) ?bM ?bN bF ?bO (by repeat(first|exact Env.le_rfl|refine Env.dj rfl ?_));case bM=>omega
  case bN=>exact ab
  case bO=>exact(Env.bt rfl bF (Env.bt rfl (by exact congrArg AV.int (zI ab).symm) Env.le_nil))
 refine zt ?_;refine U.m λU=>U.o (.c1 (qH ..)) λU=>?_;refine bP λI a w U=>?_;refine cz (λai=>?_) λai=>?_
 .refine zt ?_;refine U.o (.bd iI bf.nil) λU=>?_;refine ax λI a w U=>?_;rw[List.take_of_length_le om] at ai;refine U.ret rfl (.cons (.sx 0) (.cons (.t rfl) aZ.nil)) ?_;have e:jj l=false:=by rcases ai with h|h;(rw[hn] at h;cases h);unfold jj;simp;omega
  exact(by unfold pw;rw[e];rfl)
 refine aX λI a w U=>?_;refine U.o (cr .tt .c (λ_=>by have:=C0 hl k;omega)) λU=>?_;refine U.m λU=>?_;refine U.o (.bd iI (.k (.k bf.nil))) λU=>?_;refine ax λI a w U=>?_;rw[List.take_of_length_le om] at ai;refine U.ret rfl (.cons (.sx 0) (.cons (.t rfl) aZ.nil)) ?_;have e:jj l=true:=by have:=C0 hl l.length;rw[List.take_length] at this;unfold jj;simp;omega
 exact(by unfold pw;rw[e,List.take_of_length_le om];rfl)
def YR {s u u2:Server} {g2:Bool} {i:Nat} (hu:eI u) (nR:ir u=ir s) (C3:u.bq=s.bq) (hf:g2=false->u=u2/\i<=u.waits.length/\(u.ar.length<80->∀j,j<i->lz u (ae u.waits j)=false))
 (ht:g2=true->0<=fo u/\u2=mT u (fo u).toNat) (hb:u2.waits.length<=i\/g2=true):eI u2/\ir u2=ir s/\(g2=false->fo u2<0)/\u2.bq=s.bq:=by
 cases g2 with
 |true=>
  obtain⟨h1,rfl⟩:=ht rfl
  exact⟨hu.wO h1,by rw[<-Ml h1,nR],(λe=>by cases e),C3⟩
 |false=>
  obtain⟨rfl,h1,h2⟩:=hf rfl
  have h3:u.waits.length<=i:=hb.resolve_right be
  exact⟨hu,nR,λ_=>Xa λod j hj=>h2 od j om,C3⟩
def OB (s:Server) (slot:Int) (h:po s) (h0:de s.site=true) (hl:s.aQ.length=3) (tI:0<=slot/\slot<3):
 Fn prog 290 [s.av,AV.int slot] ((gE s slot).av):=by
 refine Fn.go 44 func290 ntmps290 (λW I a U=>?_);obtain⟨h1,⟨h2,h3⟩,⟨h4,h5⟩,h6,h7⟩:=h;refine aX λI a w U=>?_;refine U.alloc rfl cH dN λb4 I a w U=>?_;refine zt ?_;refine U.da 14 ?_;simp only[TD];refine ef ?_;refine .o (.c1 (Hm _ h0)) ?_;refine ky ?_;refine .o (.bd dN (.k (.k (.k (.k (.k bf.nil)))))) ?_;refine fO.alloc cH dN<|.nil ?_;intro I a w U;obtain⟨b5,U⟩:=U.sQ (d:=5) rfl;refine aR λI a w U=>?_;refine U.o (.cl (Ck s.ar slot h2 h3)) λU=>?_;refine lJ λI a w U=>?_;refine U.o (.cl (Ck s.waits slot h4 h5)) λU=>?_;refine lJ λI a w U=>?_;refine U.o (.cl (MD s.aE slot h6)) λU=>?_;refine fW λI a w U=>?_;refine U.ret rfl (.cons (.sx 0) aZ.nil) ?_;rfl
def OC (l vs:List aJ) (hc:cD l=true) (hv:cD vs=true):
 Fn prog 366 [cm l,cm vs] (AV.c8 [cm (jn l vs),AV.bool (decide (l.length+vs.length<=80))]):=by
 refine Fn.go 33 func366 ntmps366 (λW I a U=>?_);have hl:=gV hc;have nY:=gV hv;have kj:=tf hc;have qK:=tf hv;have ud:=(uK.1 hv).2.2;refine aV λI a w U=>?_;refine U.o (bx (gR.fn (uJ l om (λu hu=>by have:=kj u hu;omega))) (an .r aH)) λU=>?_;refine aU λI a w U=>?_;refine St.lo (σ:=Nat) (6::(8::(run 13 13 []))) ⟨λk=>[(13,AV.int k),(6,cm (jn l (vs.take k)))],λk=>[],λk=>k<=vs.length⟩ (λk=>vs.length-k) 0 U ?aD ?bh;case aD=>exact Nat.zero_le _
 rintro k I a w aj U;have hk:k<=vs.length:=aj;refine al λI a w U=>?_;refine cz (λab=>?_) λab=>?_
 .refine aA λI a w U=>?_;refine U.alloc rfl bI dY λb8 I a w U=>?_;refine al λI a w U=>?_;obtain⟨I,U⟩:=U.fb 0 8;refine aA λI a w U=>?_;refine U.o (.c1 (nB ..)) λU=>?_;refine U.o (.cl (qp ..)) λU=>?_;refine al λI a w U=>?_;refine cz (λah=>?_) λah=>?_
  .refine aA λI a w U=>?_;refine U.o (bx (FZ (jn l (vs.take k)) (ae vs k) (by have:=GP l vs k;omega) (λu hu=>by have:=Xl kj qK k u hu;omega) (by have:=qK _ (bK ab);omega)) (an .r (an (.t rfl) aH))) λU=>?_;refine aI λI a w U=>?_;have U:=U.drop 0;refine U.again (k+1) ?bM ?bN bF ?bO (by repeat(first|exact Env.le_rfl|refine Env.dj rfl ?_));case bM=>omega
   case bN=>exact ab
   case bO=>exact(Env.bt rfl bF (Env.bt rfl (by first|exact congrArg cm (Nz ud ab ah)|exact congrArg cm (NA ab om)) Env.le_nil))
  refine ax λI a w U=>?_;have U:=U.drop 0;refine U.again (k+1) ?nF ?nG bF ?nH (by repeat(first|exact Env.le_rfl|refine Env.dj rfl ?_));case nF=>omega
  case nG=>exact ab
  case nH=>exact(Env.bt rfl bF (Env.bt rfl (by first|exact congrArg cm (Nz ud ab ah)|exact congrArg cm (NA ab om)) Env.le_nil))
 refine zt ?_;refine iG λI a w U=>?_;refine U.rt ?_;exact(by rw[List.take_of_length_le om,WB];rfl)
def vo (s:Server) (m:az) (i j k:Nat):Server:=
 {eJ s m.slot with aQ:=(eJ s m.slot).aQ.set m.slot.toNat ⟨m.bX,1⟩,ar:=jn (eJ s m.slot).ar (m.ar.take i),waits:=jn (eJ s m.slot).waits (m.waits.take j),aE:=(m.aE.take k).foldl eN (eJ s m.slot).aE}
def nT (s:Server) (k:Nat):List az:=(rX s k).map λi:Nat=>gE s (i:Int)
def OD {s:Server} {k:Nat} (h:(ae s.aQ k).fg=2):nT s k++[gE s (k:Int)]=nT s (k+1):=by
 unfold nT;rw[Wa h,List.map_append];rfl
def OE {s:Server} {k:Nat} (h:¬(ae s.aQ k).fg=2):nT s k=nT s (k+1):=by
 unfold nT;rw[Wb h]
def Hn (s:Server) (k:Nat):(nT s k).length<=k:=by unfold nT;rw[List.length_map];exact Wc s k
def ic (s:Server) (k:Nat):List az:=nT s 3++((s.aE.take k).map (jY s)).flatten
def C4 {s:Server} {k:Nat} (h:k<s.aE.length):ic s (k+1)=ic s k++jY s (ae s.aE k):=by
 unfold ic;rw[ep h,List.map_append,List.flatten_append,List.append_assoc];simp
def OF (s:Server) (d:ao):(jY s d).length<=2:=by unfold jY;split<;>simp
def xo (s:Server):∀k,k<=s.aE.length->(ic s k).length<=3+2*k
 |0,_=>by have:=Hn s 3;simp[ic];omega
 |k+1,h=>by have:=xo s k om;have:=OF s (ae s.aE k);rw[C4 om,List.length_append];omega
def OG {s:Server} {d:ao} (h:¬eY s d.key=1):jY s d=[]:=by unfold jY;rw[if_neg (by simpa using h)]
def YS {s:Server} {d:ao} (h:eY s d.key=1):(jY s d).length=2:=by unfold jY;rw[if_pos (by simpa using h)];rfl
def YT {s:Server} {d:ao} {v:aJ} (h:eY s d.key=1) (hv:jm s.ar d=some v) {j:Nat} (hj:j<2):ae (jY s d) j={cg with kind:=5,bj:=s.site,to:=2-2*cv s.site+(j:Int),ar:=[v]}:=by
 unfold jY;rw[if_pos (by simpa using h),hv];match j,hj with
 |0,_=>show _={cg with kind:=5,bj:=s.site,to:=2-2*cv s.site+(0:Int),ar:=[v]};rw[Int.add_zero];rfl
 |1,_=>rfl
def OH {s:Server} {k:Nat} (h:k=3):nT s k=ic s 0:=by subst h;simp[ic]
def OI {s:Server} {k j:Nat} {v:aJ} (bJ:eY s (ae s.aE k).key=1) (hv:jm s.ar (ae s.aE k)=some v) (hj:j<2):ic s k++(jY s (ae s.aE k)).take j++[{cg with kind:=5,bj:=s.site,to:=2-2*cv s.site+(j:Int),ar:=[v]}]=ic s k++(jY s (ae s.aE k)).take (j+1):=by
 rw[List.append_assoc,<-YT bJ hv hj,<-ep (by rw[YS bJ];exact hj)]
def OJ {s:Server} {k j:Nat} (hk:k<s.aE.length) (hj:2<=j):ic s k++(jY s (ae s.aE k)).take j=ic s (k+1):=by
 rw[C4 hk,List.take_of_length_le (by have:=OF s (ae s.aE k);omega)]
def YU {s:Server} {k:Nat} {v:aJ} (hk:k<s.aE.length) (Ar:v.key=(ae s.aE k).key) (h:¬(ae s.aQ (gY v.key).toNat).fg=1):ic s k=ic s (k+1):=by
 rw[C4 hk,OG (by unfold eY;rw[<-Ar];exact h),List.append_nil]
def YV (site:Nat) (h4:site<4):
 Fn prog 155 [AV.int (site:Int)] ((qA site).av):=by
 refine Fn.go 30 func155 ntmps155 (λW I a U=>?_);have uv:de (site:Int)=true:=mu.2 om;refine sr<|U.alloc rfl bL di λb2 I a w U=>?_;refine aX λI a w U=>?_;refine U.o (.c1 (qw ..)) λU=>?_;refine al λI a w U=>?_;refine U.cd (λab=>?_) λab=>?_
 .exfalso;rw[uv] at ab;cases ab;skip
 refine aX λI a w U=>?_;refine U.o (.bd wj (.k (.k bf.nil))) λU=>?_;refine U.alloc rfl bL wj λb3 I a w U=>?_;refine al λI a w U=>?_;have U:=U.en (sz:=2) 97;refine al λI a w U=>?_;refine St.lo (σ:=Nat×Value) (run 2 4 (run 17 12 [])) ⟨λ⟨k,v⟩=>[(4,AV.int k)],λ⟨k,v⟩=>[Own.box b2 95 [AV.val (.int .i64 0),AV.val (.bool false),AV.rows 2 [],AV.rows 7 [],AV.rows 7 [],AV.rows 3 [],AV.rows 3 []],Own.box b3 95 [AV.int (site:Int),AV.bool true,AV.val v,AV.val (.slice none 0 0),AV.val (.slice none 0 0),AV.val (.slice none 0 0),AV.val (.slice none 0 0)],Own.row v 97 2 ((pC site k).map ct.cells)],λ⟨k,v⟩=>k<=3⟩ (λ⟨k,v⟩=>3-k) (0,.slice none 0 0) U ?aD ?bh;case aD=>exact Nat.zero_le _
 rintro⟨k,v⟩ I a w aj U;have hk:k<=3:=aj;dsimp only at U;refine ax λI a w U=>?_;refine cz (λah=>?_) λah=>?_
 .refine zt ?_;refine U.o (.bd kD bf.nil) λU=>?_;refine U.alloc rfl dP kD λb5 I a w U=>?_;refine aA λI a w U=>?_;refine U.o (lZ .tt .c (λ_=>by omega)) λU=>?_;refine U.m λU=>?_;refine U.o (lZ .tt .c (λ_=>by omega)) λU=>?_;refine al λI a w U=>?_;refine cz (λai=>?_) λai=>?_
  .refine St.region ?_;refine U.o (.bd kD (.k (.k bf.nil))) λU=>?_;refine aR λI a w U=>?_;refine U.o (.li [ct.cells ⟨1,1⟩] wm (.u .nil)) λU=>?_;refine U.append 2 rfl eM dP rfl .tt .r rfl (by rw[List.length_map,w6];simp;omega) λHo a w U=>?_;refine U.o .fv λU=>?_;try have YW:=U.cU 2 rfl
   refine aU λI a w U=>?_;have U:=U.drop 3;rw[cA,Gn (by simpa using ai)] at U;exact U.ag (k+1,Ho) (by show k+1<=3;omega)
  refine aV λI a w U=>?_;refine U.o (.li [ct.cells ⟨0,0⟩] wm (.u .nil)) λU=>?_;refine U.append 2 rfl eM dP rfl .tt .r rfl (by rw[List.length_map,w6];simp;omega) λHo a w U=>?_;refine U.o .fv λU=>?_;try have YW:=U.cU 2 rfl
  refine aU λI a w U=>?_;have U:=U.drop 3;rw[cA,Gp (by simpa using ai)] at U;exact U.ag (k+1,Ho) (by show k+1<=3;omega)
 refine wp_exit<|bU<|bU<|eb<|ba<|wp_seq ?_;obtain⟨I,U⟩:=U.fu 2 2 1;have U:=U.lX (q:=3) 1 rfl rfl (eQ 7 _);have U:=U.lX (q:=4) 1 rfl rfl (eQ 7 _);have U:=U.lX (q:=5) 1 rfl rfl (eQ 3 _);have U:=U.lX (q:=6) 1 rfl rfl (eQ 3 _);refine ax λI a w U=>?_;refine U.ret rfl (.cons (.sx 0) aZ.nil) ?_;have eZ:k=3:=by omega
 subst eZ;rfl
def YX {s:Server} {k:Nat} (hk:k<s.aE.length) (h:fR s (ae s.aE k).key=false) (hb:dp (ae s.aE k).key=true):ic s k=ic s (k+1):=by
 unfold fR at h;rw[hb,Bool.true_and] at h;rw[C4 hk,OG (by simpa using h),List.append_nil]
def Hp (q:Call) (h:uO q):
 Fn prog 166 [q.av] (q.av):=by
 refine Fn.go 45 func166 ntmps166 (λW I a U=>?_);obtain⟨h1,h2,h4,h5,h3⟩:=h;refine sr<|U.box rfl .tt λb1 I a w U=>U.alloc rfl dm g0 λb2 I a w U=>?_;refine zt ?_;refine U.l0 λb6 I a w U=>?_;refine aA λI a w U=>?_;refine U.ap 2 λv9 a w U=>?_;obtain⟨I,U⟩:=U.fr 2 9;refine ax λI a w U=>?_;refine U.l0 λoF I a w U=>?_;refine aA λI a w U=>?_;refine U.ap 3 λgX a w U=>?_;obtain⟨I,U⟩:=U.fr 3 14;refine ax λI a w U=>?_;refine U.l0 λzS I a w U=>?_;refine aA λI a w U=>?_;refine U.ap 4 λpB a w U=>?_;obtain⟨I,U⟩:=U.fr 4 19;refine ax λI a w U=>?_;refine U.l0 λzT I a w U=>?_;refine ax λI a w U=>?_;refine St.lo (σ:=Nat×Value) (run 3 3 (run 20 22 [])) ⟨λ⟨k,v⟩=>[(4,AV.int k),(3,AV.val v)],λ⟨k,v⟩=>[Own.box b1 45 q.cells,Own.box b2 45 [AV.val (.int .i64 0),AV.val (.int .i64 0),AV.val (.int .i64 0),AV.rows 1 [],AV.val (.int .i64 0),AV.rows 3 [],AV.val (.int .i64 0),AV.val (.int .i64 0),AV.val (.bool false),AV.val (.int .i64 0),AV.val (.int .i64 0),AV.rows 9 [],AV.rows 3 []],Own.gone,Own.gone,Own.gone,Own.row v 56 9 ((q.au.take k).map Answer.cells)],λ⟨k,v⟩=>k<=q.au.length⟩ (λ⟨k,v⟩=>q.au.length-k) (0,.slice (some ⟨zT,0,none⟩) 0 0) U ?aD ?bh;case aD=>exact Nat.zero_le _
 rintro⟨k,v⟩ I a w aj U;have hk:k<=q.au.length:=aj;dsimp only at U;refine bP λI a w U=>?_;refine cz (λab=>?_) λab=>?_
 .refine bV λI a w U=>?_;refine U.alloc rfl dI lq λb5 I a w U=>?_;refine aV λI a w U=>?_;refine U.o (.c1 (ou _ (h5 _ (bK ab)))) λU=>U.o .fv λU=>U.mD 6 bI .tt .tt rfl rfl rfl λa w U=>?_;refine aA λI a w U=>?_;refine U.o (.li [(ae q.au k).cells] rB (.u .nil)) λU=>?_;refine U.ap 5 λxj a w U=>?_;rw[cA,<-ep ab] at U;refine aU λI a w U=>?_;have U:=U.drop 6;exact U.ag (k+1,xj) (ab)
 refine wp_exit<|bU<|bU<|eb<|ba<|wp_seq ?_;rw[List.take_of_length_le om] at U;obtain⟨I,U⟩:=U.fr 5 3;refine bP λI a w U=>?_;refine U.ret rfl (.cons (.sx 1) aZ.nil) ?_;rfl
def YY (l:List (Int)) (h:z3 l<=1048576):
 gR prog 264 [fM l] KK.int 1 (l.map lF):=by
 refine gR.intro 22 func264 rfl ntmps264 rfl aq (λW I a U=>?_);have hl:l.length<=1048576:=by unfold z3 at h;omega
 refine aV λI a w U=>?_;refine U.make rfl kG cT Sl rfl .tt .tt om λb7 a w U=>?_;change St _ _ ([]++[Own.row (.slice (some ⟨b7,0,none⟩) l.length l.length) 3 1 (List.replicate l.length [AV.val (.int .i64 0)])]) _ _ _ at U;rw[<-Cz (f:=lF)] at U;refine ax λI a w U=>?_;refine St.lo (σ:=Nat) (4::(run 13 8 [])) ⟨λk=>[(4,AV.int k)],λk=>[Own.row (.slice (some ⟨b7,0,none⟩) l.length l.length) 3 1 (partOf (lF) [AV.val (.int .i64 0)] l k)],λk=>k<=l.length⟩ (λk=>l.length-k) 0 U ?aD ?bh;case aD=>exact Nat.zero_le _
 rintro k I a w aj U;have hk:k<=l.length:=aj;have lf:(partOf (lF) [AV.val (.int .i64 0)] l k).length=l.length:=Cy hk;dsimp only at U;rw[<-lf] at U;refine aU λI a w U=>?_;refine cz (λab=>?_) λab=>?_
 .refine df λI a w U=>?_;refine U.o (gv kG cT .tt .tt (λ_=>by omega)) λU=>?_;refine U.ui (j:=0) 0 cT .tt .tt (by first|exact cL rfl|exact cN|exact cO|exact cP) rfl (by exact CB ab) rfl rfl λa w U=>?_;refine aI λI a w U=>?_;change St _ _ [Own.row (.slice (some ⟨b7,0,none⟩) (partOf (lF) [AV.val (.int .i64 0)] l k).length (partOf (lF) [AV.val (.int .i64 0)] l k).length) 3 1 ((partOf (lF) [AV.val (.int .i64 0)] l k).set k (lF (ae l k)))] _ _ _ at U;rw[lf,CC ab] at U;exact U.ag (k+1) (ab)
 refine zt ?_;refine ax λI a w U=>?_;rw[lf,CA om] at U;exact U.rq (r:=2) 0 rfl rfl rfl rfl
def YZ (l:List (ct)) (h:z4 l<=1048576):
 gR prog 261 [l4 l] KK.slot 2 (l.map ct.cells):=by
 refine gR.intro 23 func261 rfl ntmps261 rfl aq (λW I a U=>?_);have hl:l.length<=1048576:=by unfold z4 at h;omega
 refine aV λI a w U=>?_;refine U.make rfl eM dP kD rfl .tt .tt om λb7 a w U=>?_;change St _ _ ([]++[Own.row (.slice (some ⟨b7,0,none⟩) l.length l.length) 97 2 (List.replicate l.length [AV.val (.int .i64 0),AV.val (.int .i64 0)])]) _ _ _ at U;rw[<-Cz (f:=ct.cells)] at U;refine ax λI a w U=>?_;refine St.lo (σ:=Nat) (4::(run 14 8 [])) ⟨λk=>[(4,AV.int k)],λk=>[Own.row (.slice (some ⟨b7,0,none⟩) l.length l.length) 97 2 (partOf (ct.cells) [AV.val (.int .i64 0),AV.val (.int .i64 0)] l k)],λk=>k<=l.length⟩ (λk=>l.length-k) 0 U ?aD ?bh;case aD=>exact Nat.zero_le _
 rintro k I a w aj U;have hk:k<=l.length:=aj;have lf:(partOf (ct.cells) [AV.val (.int .i64 0),AV.val (.int .i64 0)] l k).length=l.length:=Cy hk;dsimp only at U;rw[<-lf] at U;refine aU λI a w U=>?_;refine cz (λab=>?_) λab=>?_
 .refine df λI a w U=>?_;refine U.o (.c1 (Xm _)) λU=>?_;refine U.o (gv eM dP .tt .tt (λ_=>by omega)) λU=>?_;refine U.ja 0 dP .tt .tt rfl (by exact CB ab) rfl rfl λa w U=>?_;refine aI λI a w U=>?_;change St _ _ [Own.row (.slice (some ⟨b7,0,none⟩) (partOf (ct.cells) [AV.val (.int .i64 0),AV.val (.int .i64 0)] l k).length (partOf (ct.cells) [AV.val (.int .i64 0),AV.val (.int .i64 0)] l k).length) 97 2 ((partOf (ct.cells) [AV.val (.int .i64 0),AV.val (.int .i64 0)] l k).set k (ct.cells (ae l k)))] _ _ _ at U;rw[lf,CC ab] at U;exact U.ag (k+1) (ab)
 refine zt ?_;refine ax λI a w U=>?_;rw[lf,CA om] at U;exact U.rq (r:=2) 0 rfl rfl rfl rfl
def Y0 (k:Nat) (l:List (Server)) (hb:(aN gA k l).2<=1152921504606846976):
 Fn prog 119 [n3 (aN gA k l).1,AV.int (k:Nat)] (AV.int ((aN gA k l).2:Nat)):=by
 refine Fn.go 78 func119 ntmps119 (λW I a U=>?_);have hl:k+l.length<=(aN gA k l).2:=lu (f:=gA) (c:=lL) (wu) (λt=>by simp only[lL];omega);have dJ:(aN gA k l).1.length=l.length:=fJ;refine ax λI a w U=>?_;refine St.lo (σ:=Nat) (1::(run 73 4 [])) ⟨λi=>[(5,AV.int i),(1,AV.int ((aN gA k (l.take i)).2:Nat))],λi=>[],λi=>i<=l.length⟩ (λi=>l.length-i) 0 U ?aD ?bh;case aD=>exact Nat.zero_le _
 rintro i I a w aj U;have kU:i<=l.length:=aj;dsimp only at U;refine aU λI a w U=>?_;refine U.cd (λab=>?_) λab=>?_
 .simp only[B,fJ] at ab;refine wp_skip<|ba<|wp_seq<|wp_block<|wp_seq<|wp_seq ?_;obtain⟨t,hx⟩:=get_some ab;generalize cV:(aN gA k (l.take i)).2=kk at U;obtain⟨fy,fk⟩:=kb (f:=gA) (c:=lL) (wu) hx cV;have he:=rG hx cV;simp only[lL] at fk;refine fW λI a w U=>?_;refine U.cd (λah=>?_) λah=>?_
  .exfalso;rw[he] at ah;first|(simp only[B,gA,not_true_eq_false] at ah;done)|(simp only[B,gA] at ah;omega)|(simp[gA,dU] at ah)
   skip
  refine aA λI a w U=>?_;rw[show((kk:Nat):Int)+1=((kk+1:Nat):Int) from rfl] at U;refine fm λI a w U=>?_;refine U.o (lZ .tt .c (λ_=>by omega)) λU=>?_;refine U.o .sU λU=>U.o (o1 .tt .tt n7) λU=>?_;refine zt ?_;refine U.cd (λai=>?_) λai=>?_
  .exfalso;rw[he] at ai;first|(simp only[B,gA,not_true_eq_false] at ai;done)|(simp only[B,gA] at ai;omega)|(simp[gA,dU] at ai)
   skip
  refine aA λI a w U=>?_;rw[show((kk+1:Nat):Int)+1=((kk+2:Nat):Int) from rfl] at U;refine fm λI a w U=>?_;refine U.o (bx (show Fn prog 214 [l4 (ae (aN gA k l).1 i).aQ,AV.int ((kk+2):Nat)] (AV.int ((mL (kk+2) t.aQ).2:Nat)) from by have hq:(mL (kk+2) t.aQ).2<=1152921504606846976:=(by rw[show(mL (kk+2) t.aQ).2=_ from yY];omega);rw[he];exact Xn _ _ hq) (an .r (an (.t rfl) aH))) λU=>?_;generalize cY:(mL (kk+2) t.aQ).2=k1 at U;have iw:k1=_:=cY.symm.trans (yY);refine aI λI a w U=>?_;refine U.cd (λaG=>?_) λaG=>?_
  .exfalso;simp only[B] at aG;omega;skip
  refine df λI a w U=>?_;refine U.o (bx (show Fn prog 44 [cm (ae (aN gA k l).1 i).ar,AV.int ((k1):Nat)] (AV.int ((aN cx (k1) t.ar).2:Nat)) from by have hq:(aN cx (k1) t.ar).2<=1152921504606846976:=(by rw[show(aN cx (k1) t.ar).2=_ from pe];omega);subst cY;rw[he];exact CE _ _ hq) (an .r (an (.t rfl) aH))) λU=>?_;generalize dM:(aN cx (k1) t.ar).2=k2 at U;have rU:k2=_:=dM.symm.trans (pe);refine aI λI a w U=>?_;refine U.cd (λaL=>?_) λaL=>?_
  .exfalso;simp only[B] at aL;omega;skip
  refine df λI a w U=>?_;refine U.o (bx (show Fn prog 44 [cm (ae (aN gA k l).1 i).waits,AV.int ((k2):Nat)] (AV.int ((aN cx (k2) t.waits).2:Nat)) from by have hq:(aN cx (k2) t.waits).2<=1152921504606846976:=(by rw[show(aN cx (k2) t.waits).2=_ from pe];omega);subst cY;subst dM;rw[he];exact CE _ _ hq) (an .r (an (.t rfl) aH))) λU=>?_;generalize eZ:(aN cx (k2) t.waits).2=k3 at U;have uU:k3=_:=eZ.symm.trans (pe);refine aI λI a w U=>?_;refine U.cd (λbc=>?_) λbc=>?_
  .exfalso;simp only[B] at bc;omega;skip
  refine df λI a w U=>?_;refine U.o (bx (show Fn prog 117 [bm (ae (aN gA k l).1 i).aE,AV.int ((k3):Nat)] (AV.int ((cn (k3) t.aE).2:Nat)) from by have hq:(cn (k3) t.aE).2<=1152921504606846976:=(by rw[show(cn (k3) t.aE).2=_ from ez];omega);subst cY;subst dM;subst eZ;rw[he];exact r8 _ _ hq) (an .r (an (.t rfl) aH))) λU=>?_;generalize jk:(cn (k3) t.aE).2=k4 at U;have zM:k4=_:=jk.symm.trans (ez);refine aI λI a w U=>?_;refine U.cd (λaY=>?_) λaY=>?_
  .exfalso;simp only[B] at aY;omega;skip
  refine df λI a w U=>?_;refine U.o (bx (show Fn prog 117 [bm (ae (aN gA k l).1 i).bq,AV.int ((k4):Nat)] (AV.int ((cn (k4) t.bq).2:Nat)) from by have hq:(cn (k4) t.bq).2<=1152921504606846976:=(by rw[show(cn (k4) t.bq).2=_ from ez];omega);subst cY;subst dM;subst eZ;subst jk;rw[he];exact r8 _ _ hq) (an .r (an (.t rfl) aH))) λU=>?_;generalize zN:(cn (k4) t.bq).2=k5 at U;have VN:k5=_:=zN.symm.trans (ez);refine aI λI a w U=>?_;refine U.cd (λbz=>?_) λbz=>?_
  .exfalso;simp only[B] at bz;omega;skip
  refine aI λI a w U=>?_;subst cY;subst dM;subst eZ;subst jk;subst zN;refine U.again (i+1) ?bM ?bN bF ?bO (by repeat(first|exact Env.le_rfl|refine Env.dj rfl ?_));case bM=>omega
  case bN=>show i+1<=_;omega
  case bO=>exact(Env.bt rfl bF (Env.bt rfl (by exact congrArg AV.int (by rw[fy];(try rfl))) Env.le_nil))
 simp only[B,fJ] at ab;refine zt ?_;refine cK ?_;rw[List.take_of_length_le om];rfl
def Y1 (k:Nat) (l:List (Call)) (hb:(aN dQ k l).2<=1152921504606846976):
 Fn prog 121 [jb (aN dQ k l).1,AV.int (k:Nat)] (AV.int ((aN dQ k l).2:Nat)):=by
 refine Fn.go 134 func121 ntmps121 (λW I a U=>?_);have hl:k+l.length<=(aN dQ k l).2:=lu (f:=dQ) (c:=lN) (wy) (λt=>by simp only[lN];omega);have dJ:(aN dQ k l).1.length=l.length:=fJ;refine ax λI a w U=>?_;refine St.lo (σ:=Nat) (1::(run 129 4 [])) ⟨λi=>[(5,AV.int i),(1,AV.int ((aN dQ k (l.take i)).2:Nat))],λi=>[],λi=>i<=l.length⟩ (λi=>l.length-i) 0 U ?aD ?bh;case aD=>exact Nat.zero_le _
 rintro i I a w aj U;have kU:i<=l.length:=aj;dsimp only at U;refine aU λI a w U=>?_;refine U.cd (λab=>?_) λab=>?_
 .simp only[B,fJ] at ab;refine wp_skip<|ba<|wp_seq<|wp_block<|wp_seq<|wp_seq ?_;obtain⟨t,hx⟩:=get_some ab;generalize cV:(aN dQ k (l.take i)).2=kk at U;obtain⟨fy,fk⟩:=kb (f:=dQ) (c:=lN) (wy) hx cV;have he:=rG hx cV;simp only[lN] at fk;refine fW λI a w U=>?_;refine U.cd (λah=>?_) λah=>?_
  .exfalso;rw[he] at ah;first|(simp only[B,dQ,not_true_eq_false] at ah;done)|(simp only[B,dQ] at ah;omega)|(simp[dQ,dU] at ah)
   skip
  refine aA λI a w U=>?_;rw[show((kk:Nat):Int)+1=((kk+1:Nat):Int) from rfl] at U;refine et λI a w U=>?_;refine U.cd (λai=>?_) λai=>?_
  .exfalso;rw[he] at ai;first|(simp only[B,dQ,not_true_eq_false] at ai;done)|(simp only[B,dQ] at ai;omega)|(simp[dQ,dU] at ai)
   skip
  refine aA λI a w U=>?_;rw[show((kk+1:Nat):Int)+1=((kk+2:Nat):Int) from rfl] at U;refine et λI a w U=>?_;refine U.cd (λaG=>?_) λaG=>?_
  .exfalso;rw[he] at aG;first|(simp only[B,dQ,not_true_eq_false] at aG;done)|(simp only[B,dQ] at aG;omega)|(simp[dQ,dU] at aG)
   skip
  refine aA λI a w U=>?_;rw[show((kk+2:Nat):Int)+1=((kk+3:Nat):Int) from rfl] at U;refine fm λI a w U=>?_;refine U.o (bx (show Fn prog 215 [fM (ae (aN dQ k l).1 i).keys,AV.int ((kk+3):Nat)] (AV.int ((mM (kk+3) t.keys).2:Nat)) from by have hq:(mM (kk+3) t.keys).2<=1152921504606846976:=(by rw[show(mM (kk+3) t.keys).2=_ from yZ];omega);rw[he];exact Xo _ _ hq) (an .r (an (.t rfl) aH))) λU=>?_;generalize cY:(mM (kk+3) t.keys).2=k1 at U;have iw:k1=_:=cY.symm.trans (yZ);refine aI λI a w U=>?_;refine U.cd (λaL=>?_) λaL=>?_
  .exfalso;simp only[B] at aL;omega;skip
  refine fW λI a w U=>?_;refine U.cd (λbc=>?_) λbc=>?_
  .exfalso;subst cY;rw[he] at bc;first|(simp only[B,dQ,not_true_eq_false] at bc;done)|(simp only[B,dQ] at bc;omega)|(simp[dQ,dU] at bc)
   skip
  refine aA λI a w U=>?_;rw[show((k1:Nat):Int)+1=((k1+1:Nat):Int) from rfl] at U;refine fm λI a w U=>?_;refine U.o (bx (show Fn prog 117 [bm (ae (aN dQ k l).1 i).ctx,AV.int ((k1+1):Nat)] (AV.int ((cn (k1+1) t.ctx).2:Nat)) from by have hq:(cn (k1+1) t.ctx).2<=1152921504606846976:=(by rw[show(cn (k1+1) t.ctx).2=_ from ez];omega);subst cY;rw[he];exact r8 _ _ hq) (an .r (an (.t rfl) aH))) λU=>?_;generalize dM:(cn (k1+1) t.ctx).2=k2 at U;have rU:k2=_:=dM.symm.trans (ez);refine aI λI a w U=>?_;refine U.cd (λaY=>?_) λaY=>?_
  .exfalso;simp only[B] at aY;omega;skip
  refine fW λI a w U=>?_;refine U.cd (λbz=>?_) λbz=>?_
  .exfalso;subst cY;subst dM;rw[he] at bz;first|(simp only[B,dQ,not_true_eq_false] at bz;done)|(simp only[B,dQ] at bz;omega)|(simp[dQ,dU] at bz)
   skip
  refine aA λI a w U=>?_;rw[show((k2:Nat):Int)+1=((k2+1:Nat):Int) from rfl] at U;refine et λI a w U=>?_;refine U.cd (λbR=>?_) λbR=>?_
  .exfalso;subst cY;subst dM;rw[he] at bR;first|(simp only[B,dQ,not_true_eq_false] at bR;done)|(simp only[B,dQ] at bR;omega)|(simp[dQ,dU] at bR)
   skip
  refine aA λI a w U=>?_;rw[show((k2+1:Nat):Int)+1=((k2+2:Nat):Int) from rfl] at U;refine fm λI a w U=>?_;refine U.o (lZ .tt .c (λ_=>by omega)) λU=>?_;refine U.o .sU λU=>U.o (o1 .tt .tt n7) λU=>?_;refine zt ?_;refine U.cd (λdO=>?_) λdO=>?_
  .exfalso;subst cY;subst dM;rw[he] at dO;first|(simp only[B,dQ,not_true_eq_false] at dO;done)|(simp only[B,dQ] at dO;omega)|(simp[dQ,dU] at dO)
   skip
  refine aA λI a w U=>?_;rw[show((k2+2:Nat):Int)+1=((k2+3:Nat):Int) from rfl] at U;refine iG λI a w U=>?_;refine U.cd (λeE=>?_) λeE=>?_
  .exfalso;subst cY;subst dM;rw[he] at eE;first|(simp only[B,dQ,not_true_eq_false] at eE;done)|(simp only[B,dQ] at eE;omega)|(simp[dQ,dU] at eE)
   skip
  refine aA λI a w U=>?_;rw[show((k2+3:Nat):Int)+1=((k2+4:Nat):Int) from rfl] at U;refine iG λI a w U=>?_;refine U.cd (λjU=>?_) λjU=>?_
  .exfalso;subst cY;subst dM;rw[he] at jU;first|(simp only[B,dQ,not_true_eq_false] at jU;done)|(simp only[B,dQ] at jU;omega)|(simp[dQ,dU] at jU)
   skip
  refine aA λI a w U=>?_;rw[show((k2+4:Nat):Int)+1=((k2+5:Nat):Int) from rfl] at U;refine fm λI a w U=>?_;refine U.o (bx (show Fn prog 216 [j7 (ae (aN dQ k l).1 i).au,AV.int ((k2+5):Nat)] (AV.int ((aN ey (k2+5) t.au).2:Nat)) from by have hq:(aN ey (k2+5) t.au).2<=1152921504606846976:=(by rw[show(aN ey (k2+5) t.au).2=_ from gI (wx)];omega);subst cY;subst dM;rw[he];exact WI _ _ hq) (an .r (an (.t rfl) aH))) λU=>?_;generalize eZ:(aN ey (k2+5) t.au).2=k3 at U;have uU:k3=_:=eZ.symm.trans (gI (wx));refine aI λI a w U=>?_;refine U.cd (λmW=>?_) λmW=>?_
  .exfalso;simp only[B] at mW;omega;skip
  refine df λI a w U=>?_;refine U.o (bx (show Fn prog 117 [bm (ae (aN dQ k l).1 i).aO,AV.int ((k3):Nat)] (AV.int ((cn (k3) t.aO).2:Nat)) from by have hq:(cn (k3) t.aO).2<=1152921504606846976:=(by rw[show(cn (k3) t.aO).2=_ from ez];omega);subst cY;subst dM;subst eZ;rw[he];exact r8 _ _ hq) (an .r (an (.t rfl) aH))) λU=>?_;generalize jk:(cn (k3) t.aO).2=k4 at U;have zM:k4=_:=jk.symm.trans (ez);refine aI λI a w U=>?_;refine U.cd (λoj=>?_) λoj=>?_
  .exfalso;simp only[B] at oj;omega;skip
  refine aI λI a w U=>?_;subst cY;subst dM;subst eZ;subst jk;refine U.again (i+1) ?bM ?bN bF ?bO (by repeat(first|exact Env.le_rfl|refine Env.dj rfl ?_));case bM=>omega
  case bN=>show i+1<=_;omega
  case bO=>exact(Env.bt rfl bF (Env.bt rfl (by exact congrArg AV.int (by rw[fy];(try rfl))) Env.le_nil))
 simp only[B,fJ] at ab;refine zt ?_;refine cK ?_;rw[List.take_of_length_le om];rfl
def xp (k:Nat) (t:aM) (hb:k+pf t<=1152921504606846976) (hl:t.seen.length<=1152921504606846976):
 Fn prog 47 [(n8 k t).1.av,AV.int (k:Nat)] (AV.int ((n8 k t).2:Nat)):=by
 refine Fn.go 30 func47 ntmps47 (λW I a U=>?_);simp only[pf] at hb;refine bV λI a w U=>?_;refine U.o (bx (show Fn prog 119 [n3 (n8 k t).1.aF,AV.int (k:Nat)] (AV.int ((aN gA k t.aF).2:Nat)) from by have hq:(aN gA k t.aF).2<=1152921504606846976:=(by rw[gI (f:=gA) (wu)];omega);exact Y0 _ _ hq) (an .r (an (.t rfl) aH))) λU=>?_;generalize cY:(aN gA k t.aF).2=k1 at U;have iw:k1=_:=cY.symm.trans (gI (f:=gA) (wu));refine aI λI a w U=>?_;refine U.cd (λab=>?_) λab=>?_
 .exfalso;simp only[B] at ab;omega;skip
 refine aV λI a w U=>?_;refine U.o (bx (show Fn prog 120 [dW (n8 k t).1.aC,AV.int (k1:Nat)] (AV.int ((aN dA k1 t.aC).2:Nat)) from by have hq:(aN dA k1 t.aC).2<=1152921504606846976:=(by rw[gI (f:=dA) (wv)];omega);subst cY;exact WH _ _ hq) (an .r (an (.t rfl) aH))) λU=>?_;generalize dM:(aN dA k1 t.aC).2=k2 at U;have rU:k2=_:=dM.symm.trans (gI (f:=dA) (wv));refine aI λI a w U=>?_;refine U.cd (λah=>?_) λah=>?_
 .exfalso;simp only[B] at ah;omega;skip
 refine aV λI a w U=>?_;refine U.o (bx (show Fn prog 121 [jb (n8 k t).1.calls,AV.int (k2:Nat)] (AV.int ((aN dQ k2 t.calls).2:Nat)) from by have hq:(aN dQ k2 t.calls).2<=1152921504606846976:=(by rw[gI (f:=dQ) (wy)];omega);subst cY;subst dM;exact Y1 _ _ hq) (an .r (an (.t rfl) aH))) λU=>?_;generalize eZ:(aN dQ k2 t.calls).2=k3 at U;have uU:k3=_:=eZ.symm.trans (gI (f:=dQ) (wy));refine aI λI a w U=>?_;refine U.cd (λai=>?_) λai=>?_
 .exfalso;simp only[B] at ai;omega;skip
 refine aV λI a w U=>?_;refine U.o (bx (show Fn prog 122 [lG (n8 k t).1.seen,AV.int (k3:Nat)] (AV.int ((aN cn k3 t.seen).2:Nat)) from by have hq:(aN cn k3 t.seen).2<=1152921504606846976:=(by rw[gI (f:=cn) (λ_ _=>ez)];omega);subst cY;subst dM;subst eZ;exact WJ _ _ hq hl) (an .r (an (.t rfl) aH))) λU=>?_;refine aI λI a w U=>?_;refine U.cd (λaG=>?_) λaG=>?_
 .exfalso;simp only[B] at aG;omega;skip
 refine ax λI a w U=>?_;subst cY dM eZ;refine U.rt ?_;rfl
def oP (q:Call) (k:Nat):List az:=((q.keys.take k).filter λk=>decide (cQ q k<0)).map uS
def qM (q:Call) (k:Nat):List az:=oP q q.keys.length++(q.aO.take k).map uT
def OK {q:Call} {k:Nat} (h:k<q.keys.length) (hg:cQ q (ae q.keys k)<0):oP q k++[uS (ae q.keys k)]=oP q (k+1):=by
 unfold oP;rw[mU h (by simpa using hg),List.map_append];rfl
def OL {q:Call} {k:Nat} (h:k<q.keys.length) (hg:¬cQ q (ae q.keys k)<0):oP q k=oP q (k+1):=by
 unfold oP;rw[mV h (by simpa using hg)]
def Hq (q:Call):∀k,k<=q.keys.length->(oP q k).length<=k
 |0,_=>by simp[oP]
 |k+1,h=>by
  have ih:=Hq q k om;by_cases hg:cQ q (ae q.keys k)<0
  .rw[<-OK om hg,List.length_append];show _+1<=_;omega
  rw[<-OL om hg];omega
def Y2 {q:Call} {k:Nat} (h:k=q.keys.length):oP q k=qM q 0:=by subst h;simp[qM]
def Y3 {q:Call} {k:Nat} (h:k<q.aO.length):qM q k++[uT (ae q.aO k)]=qM q (k+1):=by
 unfold qM;rw[ep h,List.map_append,List.append_assoc];rfl
def OM (q:Call) (k:Nat):(qM q k).length<=q.keys.length+q.aO.length:=by
 have:=Hq q _ (Nat.le_refl _);unfold qM;rw[List.length_append,List.length_map,List.length_take];omega
section
variable {l:List Answer} {v:Answer} {k:Nat} {out:List Answer} {done:Bool}
def mo.before (hp:mo l v k false out) (h:k<l.length) (he:v.key<(ae l k).key):mo l v (k+1) true ((out++[v])++[ae l k]):=by
 refine⟨h,?_,by have:=hp.len;simp at this⊢;omega⟩;have:=hp.eq;rw[lh h] at this;simp only[dF,if_pos he] at this;rw[this];simp
def mo.step (hp:mo l v k done out) (h:k<l.length) (he:done=true\/¬v.key<(ae l k).key):mo l v (k+1) done (out++[ae l k]):=by
 refine⟨h,?_,by have:=hp.len;simp;omega⟩;have:=hp.eq;cases done
 .rw[lh h] at this;have he:¬v.key<(ae l k).key:=he.resolve_left be;simp only[dF,if_neg he] at this;rw[this];simp
 simp only[if_true] at this⊢;rw[this,lh h];simp
def mo.rY (hp:mo l v k true out) (h:l.length<=k):out=dF l v:=by
 have:=hp.eq;rw[List.drop_eq_nil_of_le h] at this;simpa using this.symm
def mo.rZ (hp:mo l v k false out) (h:l.length<=k):out++[v]=dF l v:=by
 have:=hp.eq;rw[List.drop_eq_nil_of_le h] at this;simpa[dF] using this.symm
end
def Y4 {q:Call} {a:Answer} {k:Nat} (h:k<q.aO.length) (he:ae q.aO k=a.bl.bD):oz q a (k+1)=q.au.set (cQ q a.key).toNat a:=by
 unfold oz;rw[if_pos ((GD h).2 (.inr he.symm))]
def Y5 {q:Call} {a:Answer} {k:Nat} (hd:ck q.aO=true) (h:k<q.aO.length) (he:ae q.aO k=a.bl.bD):oz q a k=q.au:=by
 unfold oz;rw[if_neg];intro hm;obtain⟨i,hi,e⟩:=List.getElem_of_mem hm;have o3:i<k/\i<q.aO.length:=by simp at hi;omega
 rw[List.getElem_take] at e;have e2:ae q.aO i=a.bl.bD:=by rw[<-e];simp[ae,o3.2]
 have:=zX hd o3.1 h;rw[e2,he] at this;omega
def C5 {s:Server} {slot:Int} (h:(eF s slot).2.2=true):mn s slot=true:=by unfold eF at h;split at h;assumption;cases h
def Hr {s:Server} {slot:Int} (h:(eF s slot).2.2=false):mn s slot=false:=by unfold eF at h;split at h;cases h;rename_i hh;simpa using hh
def Hs {s:Server} {slot:Int} (h:mn s slot=true):eF s slot=(pA s slot,gE (pA s slot) slot,true):=by unfold eF;rw[if_pos h]
def Y6 {s:Server} {slot:Int} (h:mn s slot=false):eF s slot=(s,cg,false):=by unfold eF;rw[h];rfl
def Y7:
 Fn prog 80 [] (oi.av):=by
 refine Fn.go 27 func80 ntmps80 (λW I a U=>?_);refine sr<|U.alloc rfl dz dT λb0 I a w U=>?_;refine zt ?_;refine U.o (.bd ny bf.nil) λU=>?_;refine U.alloc rfl dz ny λb1 I a w U=>?_;refine al λI a w U=>?_;have U:=U.en (sz:=7) 95;have U:=U.en (sz:=1) 40;refine al λI a w U=>?_;refine St.lo (σ:=Nat×Value) (2::(run 11 5 [])) ⟨λ⟨k,p⟩=>[(2,AV.int k)],λ⟨k,p⟩=>[Own.box b0 28 [AV.val (.int .i64 0),AV.rows 7 [],AV.rows 15 [],AV.rows 13 [],AV.rows 1 []],Own.box b1 28 [AV.int 0,AV.val p,AV.val (.slice none 0 0),AV.val (.slice none 0 0),AV.val (.slice none 0 0)],Own.row p 95 7 ((wV k).map Server.cells),Own.row (.slice none 0 0) 40 1 []],λ⟨k,p⟩=>k<=4⟩ (λ⟨k,p⟩=>4-k) (0,.slice none 0 0) U ?aD ?bh;case aD=>exact Nat.zero_le _
 rintro⟨k,p⟩ I a w aj U;have hk:k<=4:=aj;dsimp only at U;refine ax λI a w U=>?_;refine cz (λab=>?_) λab=>?_
 .refine zt ?_;refine U.dt 5 ?_;simp only[TD];refine ee ?_;refine .o (bx (YV k om) (an (.t rfl) aH)) ?_;refine .o (.li [(qA k).cells] wk (.u .nil)) ?_;refine .nil ?_;intro I a w U;refine U.append 2 rfl jw bL rfl .tt .r rfl (by rw[List.length_map,Gi];simp;omega) λgX a w U=>?_;refine U.o .fv λU=>?_;try have Ak:=U.cU 2 rfl
  refine al λI a w U=>?_;rw[cA] at U;refine aI λI a w U=>?_;exact U.ag (k+1,gX) (by show k+1<=4;omega)
 refine zt ?_;refine al λI a w U=>?_;refine St.lo (σ:=Nat×Value) (3::(run 10 16 [])) ⟨λ⟨j,r⟩=>[(3,AV.int j)],λ⟨j,r⟩=>[Own.box b0 28 [AV.val (.int .i64 0),AV.rows 7 [],AV.rows 15 [],AV.rows 13 [],AV.rows 1 []],Own.box b1 28 [AV.int 0,AV.val p,AV.val (.slice none 0 0),AV.val (.slice none 0 0),AV.val r],Own.row p 95 7 ((wV k).map Server.cells),Own.row r 40 1 ((CG j).map fh)],λ⟨j,r⟩=>j<=2⟩ (λ⟨j,r⟩=>2-j) (0,.slice none 0 0) U ?eL ?jX;case eL=>exact Nat.zero_le _
 rintro⟨j,r⟩ I a w aj U;have hj:j<=2:=aj;dsimp only at U;refine ax λI a w U=>?_;refine cz (λah=>?_) λah=>?_
 .refine aA λI a w U=>?_;refine U.l0 λY8 I a w U=>?_;obtain⟨I,U⟩:=U.fr 4 22;refine U.o (.li [fh []] Bv (.v .nil)) λU=>?_;refine U.append 3 rfl pb iH rfl .tt .r rfl (by rw[List.length_map,Nl];simp;omega) λuX a w U=>?_;rw[cA] at U;refine U.o .fv λU=>?_;try have Mr:=U.cU 3 rfl
  refine aU λI a w U=>?_;have U:=U.drop 4;exact U.ag (j+1,uX) (by show j+1<=2;omega)
 refine wp_exit<|bU<|bU<|eb<|ba<|wp_seq ?_;have jk:k=4:=by omega
 have Y9:j=2:=by omega
 subst jk;subst Y9;obtain⟨I,U⟩:=U.fu 2 1 1;obtain⟨I,U⟩:=U.fu 3 4 1;have U:=U.lX (q:=2) 1 rfl rfl (eQ 15 _);have U:=U.lX (q:=3) 1 rfl rfl (eQ 13 _);refine ax λI a w U=>?_;refine U.ret rfl (.cons (.sx 0) aZ.nil) ?_;rfl
def C6 (b:Nat) (t:Int) (s r q z:Value) (aC more:List az) (hr:aC.length<=60) (hl:more.length<=1048576) (hd:∀m∈more,iV m):
 bG prog 231 [AV.val (.pointer (some ⟨b,0,none⟩)),dW more] [Own.box b 28 [AV.int t,AV.val s,AV.val r,AV.val q,AV.val z],Own.row r 108 15 ((aC).map az.cells)] (λ_:Value=>True) (λu=>[Own.box b 28 [AV.int t,AV.val s,AV.val u,AV.val q,AV.val z],Own.row u 108 15 ((fe aC more).map az.cells)]) (λ_=>AV.c8 []):=by
 refine bG.intro 30 func231 rfl ntmps231 rfl aq (λW I a U=>?_);rw[show aC=fe aC (more.take 0) from(Wm aC).symm] at U;refine aI λI a w U=>?_;refine St.lo (σ:=Nat×Value) (5::(run 22 8 [])) ⟨λ⟨k,u⟩=>[(8,AV.int k)],λ⟨k,u⟩=>[Own.box b 28 [AV.int t,AV.val s,AV.val u,AV.val q,AV.val z],Own.row u 108 15 ((fe aC (more.take k)).map az.cells)],λ⟨k,u⟩=>k<=more.length⟩ (λ⟨k,u⟩=>more.length-k) (0,r) U ?aD ?bh;case aD=>exact Nat.zero_le _
 rintro⟨k,u⟩ I a w aj U;have hk:k<=more.length:=aj;dsimp only at U;refine al λI a w U=>?_;refine cz (λab=>?_) λab=>?_
 .refine aA λI a w U=>?_;refine U.alloc rfl cH dN λb5 I a w U=>?_;refine al λI a w U=>?_;obtain⟨I,U⟩:=U.fb 2 5;refine aR λI a w U=>?_;refine U.o (jL 1 dC .tt rfl) λU=>?_;refine al λI a w U=>?_;refine cz (λah=>?_) λah=>?_
  .rw[List.length_map] at ah;refine U.fV (rp 4 (([0],none)::rp 3 (([1],some (1,[26]))::rp 2 [([0],some (0,[26]))]))) aq aq rfl ?_;refine ef ?_;refine .r [0] (.lb 0) ?_;refine br ?_;refine .o (.c1 (Ac (ae more k) (hd _ (bK ab)))) ?_;refine .o (.li [(ae more k).cells] gj (.u .nil)) ?_;refine aP.Bi 1 rfl rfl dC cH rfl .tt .r (by rw[List.length_map];have:=Wn aC (more.take k) hr;simp;omega) ?_;refine cy ?_;refine aP.EC 0 rfl Fa .tt rfl rfl<|.nil ?_;intro I a w U;change St _ _ [Own.box b 28 [AV.int t,AV.val s,AV.val (a.tmps.getD 26 undef),AV.val q,AV.val z],Own.row (a.tmps.getD 26 undef) 108 15 (((fe aC (more.take k)).map az.cells)++[(ae more k).cells]),Own.gone] _ _ _ at U;generalize a.tmps.getD 26 undef=vn at U;rw[cA,Wk ab om] at U;refine ax λI a w U=>?_;have U:=U.drop 2;exact U.ag (k+1,vn) (ab)
  rw[List.length_map] at ah;refine ax λI a w U=>?_;have U:=U.drop 2;rw[Wl hr ab om] at U;exact U.ag (k+1,u) (ab)
 refine zt ?_;rw[show more.take k=more from List.take_of_length_le om] at U;exact U.RT u [0,1] rfl .nil trivial rfl rfl
end Go.Proofs.YtldbakcpcfdlaaaGreat
