/- Part 32: rules of the proofs, contracts of functions, plain facts. -/
import Derived.Test.YtoeioeimmfpefaaGreatP29
import Derived.Test.YtoeioeimmfpefaaGreatP31
set_option linter.unusedVariables false
set_option linter.unusedSimpArgs false
set_option maxRecDepth 100000
set_option maxHeartbeats 4000000
namespace Go.Proofs.YtoeioeimmfpefaaGreat
open Go Go.RowKit
attribute [local irreducible] wpList Code.wp Ok
theorem Kc:∀{vs l:List aK} {x:aK},x∈l→x∈vs.foldl iS l
 |[],l,x,h=>h
 |v::vs,l,x,h=>by
  refine Kc (vs:=vs) ?_
  unfold iS
  split
  ·exact lr.2 (.inr h)
  ·exact h
theorem Kd {l vs:List aK} {k:Nat} (hv:VS vs) (hk:k<vs.length) (hp:placeOf l (ab vs k).bH<0):eE (hZ l (vs.take k)) (ab vs k)=hZ l (vs.take (k+1)):=by
 rw[zD hk,iS,if_pos]
 refine yV fun x hx=>?_
 rcases CA hx with h|h
 ·obtain⟨i,hi,rfl⟩:=hO h
  have fA:i<k:=by simp at hi;omega
  have e:ab (vs.take k) i=ab vs i:=by unfold ab;simp[List.getD_eq_getElem?_getD,List.getElem?_take,fA]
  rw[e];exact IQ hv (by omega) hk (by omega)
 ·exact oK hp x h
theorem Ke {l vs:List aK} {k:Nat} (hk:k<vs.length) (hp:¬placeOf l (ab vs k).bH<0):hZ l (vs.take k)=hZ l (vs.take (k+1)):=by
 rw[zD hk,iS,if_neg]
 intro hn
 obtain⟨x,hx,e⟩:=CV.1 (show 0≤placeOf l (ab vs k).bH by omega)
 exact oK hn x (Kc hx) e
theorem Tl {l vs:List aK} (hl:∀v∈l,v.aS.length≤6) (hv:∀v∈vs,v.aS.length≤6) (k:Nat):∀v∈hZ l (vs.take k),v.aS.length≤6:=
 QH (fun v h=>hv v (List.mem_of_mem_take h)) hl
theorem Tm (a b:Nat):decide ((a:Int)+b≤80)=decide (a+b≤80):=by rw[Bool.eq_iff_iff];simp;omega
def Server.Tn (s:Server) (x:AV):AV:=.agg [.int s.site,.bool s.up,qJ s.aR,cv s.aq,cv s.waits,bl s.aH,x]
theorem To {s:Server} {v:aK} (hk:cU v.key=true):(eW s v.key&&!hasB (fun d=>!mg s d) v.aS)=jU s v:=by
 have e:=wx (p:=fun d=>!mg s d) (l:=v.aS)
 simp only[Bool.not_not] at e
 unfold eW jU yY
 rw[hk,e]
 simp
theorem Tp (s:Server):(s.bq.filter fun d=>!(!gC s d))=s.bq.filter (gC s):=by simp
set_option maxHeartbeats 4000000 in
theorem Kf (s:Server) (slot:Int) (h:oL s):
 cL Tryz.prog 227 [s.av,AV.int slot] [] (fun _:Value=>True) (fun v=>[Own.row v 86 2 (s.aR.map dt.cells)]) (dX s slot).uv:=by
 refine cL.intro 33 Tryz.func227 rfl Tryz.ntmps227 rfl (by kernel_rfl) (fun W I a hs=>?_)
 obtain⟨h1,⟨h2,h3⟩,⟨h4,h5⟩,h6,h7⟩:=id h
 refine az fun I a w hs=>?_
 refine hs.alloc rfl ba df fun b4 I a w hs=>?_
 refine az fun I a w hs=>?_
 refine hs.cW [] (wS s h) (aw .tt aP) rfl (by decide) rfl fun⟨vS,vV,vW,vO,vK⟩ I a w acF hs=>?_
 refine hs.alloc rfl ba df fun b5 I a w hs=>?_
 refine aJ fun I a w hs=>?_
 refine hs.o (.cl (zt s.aq slot h2 h3)) fun hs=>?_
 refine aJ fun I a w hs=>?_
 refine hs.s1 6 fun hs=>?_
 refine aB fun I a w hs=>?_
 refine hs.o (.cl (zt s.waits slot h4 h5)) fun hs=>?_
 refine aJ fun I a w hs=>?_
 refine hs.s1 6 fun hs=>?_
 refine aB fun I a w hs=>?_
 refine hs.o (.cl (Jy s.aH slot h6)) fun hs=>?_
 refine aJ fun I a w hs=>?_
 refine hs.s1 6 fun hs=>?_
 refine nn<|wp_seq ?_
 obtain⟨I,hs⟩:=hs.fu 5 6 6
 refine ai fun I a w hs=>?_
 refine nn<|wp_ret ?_
 refine hs.cP vS [1] rfl (.cons (.s 0 ba rfl rfl (by first|rfl|assumption)) .nil) trivial rfl rfl
set_option maxHeartbeats 4000000 in
theorem Kg (s:Server) (slot:Int) (h:oL s) (h0:cJ s.site=true) (hl:s.aR.length=3) (rD:0≤slot∧slot<3):
 Fn Tryz.prog 171 [s.av,AV.int slot] ((fg s slot).av):=by
 refine Fn.intro 44 Tryz.func171 rfl Tryz.ntmps171 rfl (by kernel_rfl) (fun W I a hs=>?_)
 obtain⟨h1,⟨h2,h3⟩,⟨h4,h5⟩,h6,h7⟩:=h
 refine az fun I a w hs=>?_
 refine hs.alloc rfl cj dB fun b4 I a w hs=>nn<|wp_seq ?_
 refine hs.mG 14 (by kernel_rfl) (by kernel_rfl) (by kernel_rfl) ?_
 simp only[List.take_succ_cons,List.take_zero,List.drop_succ_cons,List.drop_zero]
 refine de ?_
 refine .o (.c1 (Df _ h0)) ?_
 refine jS ?_
 refine .o (.bd dB (.k (.k (.k (.k (.k aZ.nil)))))) ?_
 refine fl.alloc cj dB<|.nil ?_
 intro I a w hs
 obtain⟨b5,hs⟩:=hs.qL (d:=5) rfl
 refine aJ fun I a w hs=>?_
 refine hs.o (.cl (zt s.aq slot h2 h3)) fun hs=>?_
 refine gi fun I a w hs=>?_
 refine hs.o (.cl (zt s.waits slot h4 h5)) fun hs=>?_
 refine gi fun I a w hs=>?_
 refine hs.o (.cl (Jy s.aH slot h6)) fun hs=>?_
 refine dq fun I a w hs=>?_
 refine nn<|wp_ret ?_
 refine hs.ret rfl (.cons (.s 0 cj rfl rfl (by first|rfl|assumption)) aU.nil) ?_
 rfl
set_option maxHeartbeats 4000000 in
theorem Kh (l vs:List aK) (hc:cg l=true) (hv:cg vs=true):
 Fn Tryz.prog 243 [cv l,cv vs] (AV.c9 [cv (hZ l vs),AV.bool (decide (l.length+vs.length≤80))]):=by
 refine Fn.intro 33 Tryz.func243 rfl Tryz.ntmps243 rfl (by kernel_rfl) (fun W I a hs=>?_)
 have hl:=gn hc
 have mC:=gn hv
 have gR:=rm hc
 have oV:=rm hv
 have rZ:=(sT.1 hv).2.2
 refine aB fun I a w hs=>?_
 refine hs.o (cI (jo.fn (sO l (by omega) (fun u hu=>by have:=gR u hu;omega))) (aw .r aP)) fun hs=>?_
 refine aJ fun I a w hs=>?_
 refine nn<|wp_block ?_
 refine St.lo (σ:=Nat) (6::(8::(run 13 13 []))) ⟨fun k=>[(13,AV.int k),(6,cv (hZ l (vs.take k)))],fun k=>[],fun k=>k≤vs.length⟩ (fun k=>vs.length-k) 0 hs ?aN ?aO
 case aN=>exact Nat.zero_le _
 case aO=>
  rintro k I a w al hs
  have hk:k≤vs.length:=al
  refine az fun I a w hs=>?_
  refine nn<|wp_seq ?_
  refine hs.cd (fun ae=>?_) fun ae=>?_
  ·try simp only[B] at ae
   refine ai fun I a w hs=>?_
   refine hs.alloc rfl bt dO fun b8 I a w hs=>?_
   refine hs.sb 0 fun hs=>?_
   obtain⟨I,hs⟩:=hs.fb 0 8
   refine ai fun I a w hs=>?_
   refine hs.o (.c1 (l4 ..)) fun hs=>?_
   refine hs.o (.cl (oC ..)) fun hs=>?_
   refine hs.o .vH fun hs=>nn ?_
   refine hs.cd (fun ah=>?_) fun ah=>?_
   ·try simp only[B] at ah
    refine ai fun I a w hs=>?_
    refine hs.o (cI (CB (hZ l (vs.take k)) (ab vs k) (by have:=Dq l vs k;omega) (fun u hu=>by have:=Tl gR oV k u hu;omega) (by have:=oV _ (bx ae);omega)) (aw .r (aw (.t rfl) aP))) fun hs=>?_
    refine aB fun I a w hs=>?_
    refine nn ?_
    have hs:=hs.drop 0
    refine hs.again (k+1) ?gS ?gT (by rfl) ?gU (by repeat(first|exact Env.le_rfl|refine Env.ie rfl ?_))
    case gS=>omega
    case gT=>exact ae
    case gU=>exact(Env.dI rfl (by rfl) (Env.dI rfl (by first|exact congrArg cv (Kd rZ ae ah)|exact congrArg cv (Ke ae (by omega))) Env.le_nil))
   ·try simp only[B] at ah
    refine ai fun I a w hs=>?_
    refine nn ?_
    have hs:=hs.drop 0
    refine hs.again (k+1) ?nK ?nL (by rfl) ?nM (by repeat(first|exact Env.le_rfl|refine Env.ie rfl ?_))
    case nK=>omega
    case nL=>exact ae
    case nM=>exact(Env.dI rfl (by rfl) (Env.dI rfl (by first|exact congrArg cv (Kd rZ ae ah)|exact congrArg cv (Ke ae (by omega))) Env.le_nil))
  ·try simp only[B] at ae
   refine wp_exit<|aF<|aF<|aY ?_
   refine jR fun I a w hs=>?_
   refine nn<|wp_ret ?_
   refine hs.rt ?_
   exact(by rw[List.take_of_length_le (by omega),Tm];rfl)
theorem Tq (s:Server) (d:ar):
 Fn Tryz.prog 240 [d.av,AV.ptr s.cells] (AV.bool (!mg s d)):=by
 refine Fn.intro 8 Tryz.func240 rfl Tryz.ntmps240 rfl (by kernel_rfl) (fun W I a hs=>?_)
 refine aJ fun I a w hs=>?_
 refine hs.o (.c2 (Ju ..)) fun hs=>?_
 refine ai fun I a w hs=>?_
 refine nn<|wp_ret ?_
 refine hs.rt ?_
 rfl
theorem Tr (s:Server) (v:aK) (hl:s.aR.length=3) (hk:cU v.key=true):
 Fn Tryz.prog 239 [v.av,AV.ptr s.cells] (AV.bool (jU s v)):=by
 refine Fn.intro 15 Tryz.func239 rfl Tryz.ntmps239 rfl (by kernel_rfl) (fun W I a hs=>?_)
 refine aW fun I a w hs=>?_
 refine hs.o (.c2 (uH s v.key hl)) fun hs=>?_
 refine aB fun I a w hs=>?_
 refine hs.q .T (lQ (aw .tt aP)) fun hs=>?_
 refine hs.q .T (.cl (Hh v.aS (fun d=>!mg s d) _ (fun d _=>Fn.val (Tq s d)))) fun hs=>?_
 refine aB fun I a w hs=>?_
 refine nn<|wp_ret ?_
 refine hs.rt ?_
 exact bM (To hk)
theorem Ts (s:Server) (d:ar) (x:AV):
 Fn Tryz.prog 223 [s.Tn x,d.av] (AV.bool (gC s d)):=by
 refine Fn.intro 9 Tryz.func223 rfl Tryz.ntmps223 rfl (by kernel_rfl) (fun W I a hs=>?_)
 refine aW fun I a w hs=>?_
 refine hs.o (lQ (aw .tt aP)) fun hs=>?_
 refine hs.o (.cl (Hi s.waits (nQ d) _ (fun v _=>Fn.val (Jv v d)))) fun hs=>?_
 refine hs.s fun hs=>nn<|wp_ret ?_
 refine hs.rt ?_
 exact bM (by unfold gC;rw[←wx];simp)
theorem Tt (b:Nat) (s:Server) (x:AV) (d:ar):
 gO Tryz.prog 242 [d.av,AV.val (.pointer (some ⟨b,0,none⟩))] [Own.box b 44 [AV.int s.site,AV.bool s.up,qJ s.aR,cv s.aq,cv s.waits,bl s.aH,x]] [Own.box b 44 [AV.int s.site,AV.bool s.up,qJ s.aR,cv s.aq,cv s.waits,bl s.aH,x]] (AV.bool (!gC s d)):=by
 refine gO.intro 8 Tryz.func242 rfl Tryz.ntmps242 rfl (by kernel_rfl) (fun W I a hs=>?_)
 refine aJ fun I a w hs=>?_
 refine hs.o (.c2 (Ts s d x)) fun hs=>?_
 refine ai fun I a w hs=>?_
 refine nn<|wp_ret ?_
 refine hs.cP () [0] rfl (.cons (.t rfl) .nil) trivial rfl rfl
theorem Tu {s x:Server} (h:gD x=gD s) (hp:eA x<0):fX s={x with bq:=x.bq.filter fun d=>!(!gC x d)}:=by
 have e:=CF hp
 unfold fX yZ
 rw[←h,e,Tp]
theorem Ki {s:Server} (h:¬s.aq.length<80):eA s<0:=by unfold eA;rw[if_neg h];decide
theorem Tv {s:Server} (h:s.aq.length<80):eA s=dm (jU s) s.waits:=by unfold eA;rw[if_pos h]
set_option maxHeartbeats 8000000 in
theorem uM (s:Server) (al:dW s) (ho:s.aH.length≤80):
 Fn Tryz.prog 225 [s.av] ((fX s).av):=by
 refine Fn.intro 40 Tryz.func225 rfl Tryz.ntmps225 rfl (by kernel_rfl) (fun W I a hs=>?_)
 have tv:=al
 have gI:=al.small (by omega)
 refine az fun I a w hs=>?_
 refine hs.alloc rfl ba df fun b2 I a w hs=>?_
 refine az fun I a w hs=>?_
 refine hs.cW [] (wS s gI) (aw .tt aP) rfl (by decide) rfl fun⟨vS,vV,vW,vO,vK⟩ I a w acG hs=>?_
 refine hs.alloc rfl ba df fun b3 I a w hs=>?_
 refine hs.sb 6 fun hs=>?_
 refine wpList_nil ?_
 obtain⟨I,hs⟩:=hs.fu 1 2 6
 obtain⟨I,hs⟩:=hs.fu 2 3 6
 obtain⟨I,hs⟩:=hs.fu 4 5 6
 refine aG ?_
 refine St.cut (σ:=Server×Value) (4::(run 26 7 [])) ⟨fun⟨x,u⟩=>[],fun⟨x,u⟩=>[Own.box b2 44 [AV.val (.int .i64 0),AV.val (.bool false),AV.rows 2 [],AV.rows 7 [],AV.rows 7 [],AV.rows 3 [],AV.rows 3 []],Own.gone,Own.gone,Own.row u 100 7 (x.waits.map aK.cells),Own.gone,Own.row vK 97 3 (x.bq.map ar.cells),Own.box b3 44 [AV.int x.site,AV.bool x.up,qJ x.aR,cv x.aq,AV.val u,bl x.aH,AV.val vK]],fun⟨x,u⟩=>dW x∧gD x=gD s∧x.aH=s.aH∧eA x<0⟩ hs ?xg ?xh
 case xg=>
  refine wp_block ?_
  refine St.lo (σ:=Server×Value) (4::(run 26 7 [])) ⟨fun⟨x,u⟩=>[],fun⟨x,u⟩=>[Own.box b2 44 [AV.val (.int .i64 0),AV.val (.bool false),AV.rows 2 [],AV.rows 7 [],AV.rows 7 [],AV.rows 3 [],AV.rows 3 []],Own.gone,Own.gone,Own.row u 100 7 (x.waits.map aK.cells),Own.gone,Own.row vK 97 3 (x.bq.map ar.cells),Own.box b3 44 [AV.int x.site,AV.bool x.up,qJ x.aR,cv x.aq,AV.val u,bl x.aH,AV.val vK]],fun⟨x,u⟩=>dW x∧gD x=gD s∧x.aH=s.aH⟩ (fun⟨x,u⟩=>x.waits.length) (s,vW) hs ?aN ?aO
  case aN=>exact⟨al,rfl,rfl⟩
  case aO=>
   rintro⟨x,u⟩ I a w al hs
   obtain⟨hx,jg,rC⟩:=al
   dsimp only at hs
   have oV:=rm hx.aq
   have Tw:=rm hx.waits
   have mC:=gn hx.aq
   have ju:=gn hx.waits
   refine aJ fun I a w hs=>?_
   refine nn ?_
   refine hs.cd (fun ae=>?_) fun ae=>?_
   ·simp only[B] at ae
    refine ai fun I a w hs=>?_
    refine hs.o (lQ (aw .tt aP)) fun hs=>?_
    refine hs.o (yi (xs:=[AV.val u,AV.fn 239 [AV.val (.pointer (some ⟨b3,0,none⟩))]]) (ow:=[cv x.waits,AV.fn 239 [AV.ptr x.cells]]) (B8 x.waits (jU x) _ (fun v hv=>Fn.val (Tr x v hx.aR (nE (gA hx.waits v hv))))) (aw .tt (aw .tt aP)) (fun c I a w hs=>by obtain⟨I,hs,hf⟩:=hs.qF 3 rfl;have hs:=hs.km (q:=4) 6 rfl rfl hf;have hs:=hs.tK (t:=0) rfl hf;obtain⟨I,hs⟩:=hs.fu 5 6 6;obtain⟨I,hs⟩:=hs.fc 6 1 0;exact⟨_,_,_,hs,rfl,rfl,trivial⟩)) fun hs=>?_
    refine hs.s fun hs=>wpList_nil ?_
    have hid:eA x=dm (jU x) x.waits:=Tv (by omega)
    refine ai fun I a w hs=>?_
    refine nn ?_
    refine hs.cd (fun ah=>?_) fun ah=>?_
    ·simp only[B] at ah
     refine wp_exit<|aF<|MO rfl<|aF<|aY<|aG ?_
     exact hs.me (x,u) (by first|exact⟨hx,jg,rC,Ki (by omega)⟩|exact⟨hx,jg,rC,by omega⟩)
    ·simp only[B] at ah
     have ny:0≤eA x:=by omega
     obtain⟨mF,mW,ga⟩:=wN ny
     have Kj:=hx.uz ny
     have mb:=ID ny
     obtain⟨n,hn⟩:∃n:Nat,(eA x).toNat=n:=⟨_,rfl⟩
     rw[hn] at mF Kj mb ga
     rw[show dm (jU x) x.waits=(n:Int) by omega] at hs
     refine wp_skip<|aG<|wp_seq ?_
     obtain⟨bu,cu,rfl⟩:=hs.g8 3 rfl (by rw[List.length_map];omega)
     refine hs.dp 9 (by kernel_rfl) (by kernel_rfl) (by kernel_rfl) ?_
     simp only[List.take_succ_cons,List.take_zero,List.drop_succ_cons,List.drop_zero]
     refine eK ?_
     refine .o (gv cM bt .tt .tt (fun _=>by rw[List.length_map];omega)) ?_
     refine .o (oj 3 bt .tt rfl (fun _=>by exact ek mF) rfl) ?_
     refine .o (cI (CB x.aq (ab x.waits n) (by omega) (fun y hy=>by have:=oV y hy;omega) (by have:=Tw _ (bx mF);omega)) (aw .r (aw (.t rfl) aP))) ?_
     refine bz ?_
     refine .nil ?_
     intro I a w hs
     refine hs.s1 6 fun hs=>?_
     refine aW fun I a w hs=>?_
     refine hs.cW [3] (Sz _ (x.waits.map aK.cells) n (by rw[List.length_map];exact mF) (by rw[List.length_map];omega) (fun r hr=>by obtain⟨y,_,rfl⟩:=List.mem_map.1 hr;rfl)) (aw .r (aw .tt (aw .tt aP))) rfl (by decide) rfl fun u2 I a w acH hs=>?_
     rw[←List.map_take,←List.map_drop,←List.map_append] at hs
     refine hs.o .fv fun hs=>?_
     try have acI:=hs.dS 3 rfl
     refine hs.s1 6 fun hs=>?_
     refine wpList_nil<|eI<|aG ?_
     exact hs.ag (lu x n,u2) (⟨Kj,mb.symm.trans jg,rC⟩) (hμ:=by show(lu x n).waits.length<x.waits.length;rw[CE mF];omega)
   ·simp only[B] at ae
    refine wp_exit<|aF<|aF<|aY<|aG ?_
    exact hs.me (x,u) (by first|exact⟨hx,jg,rC,Ki (by omega)⟩|exact⟨hx,jg,rC,by omega⟩)
 case xh=>
  rintro⟨x,u⟩ I a w al hs
  obtain⟨hx,jg,rC,zL⟩:=al
  dsimp only at hs
  have mb:=Tu jg zL
  have Tx:oL {x with bq:=x.bq.filter fun d=>!(!gC x d)}:=by rw[←mb];exact(tv.settle).small (by rw[(w5 s).2.2.2];omega)
  refine wp_seq ?_
  obtain⟨I,hs⟩:=hs.fu 3 4 6
  refine ai fun I a w hs=>?_
  refine hs.o (lQ (aw .tt aP)) fun hs=>?_
  refine hs.cW [5,6] (Dm vK x.bq (fun d=>!gC x d) _ (Own.box b3 44 [AV.int x.site,AV.bool x.up,qJ x.aR,cv x.aq,cv x.waits,bl x.aH,AV.val vK]) (by have:=hx.bq;omega) (fun d hd=>gO.val (Tt b3 x (AV.val vK) d))) (aw .r (aw .tt aP)) rfl (by decide) rfl fun Kk I a w zM hs=>?_
  refine hs.o .fv fun hs=>?_
  try have acJ:=hs.dS 5 rfl
  refine hs.s1 6 fun hs=>?_
  refine nn<|wp_seq ?_
  obtain⟨I,hs⟩:=hs.fu 5 6 6
  refine az fun I a w hs=>?_
  refine hs.o (.c1 (qk {x with bq:=x.bq.filter fun d=>!(!gC x d)} Tx)) fun hs=>?_
  refine hs.sb 0 fun hs=>?_
  refine nn<|wp_ret ?_
  refine hs.ret rfl (.cons (.s 0 ba rfl rfl (by first|rfl|assumption)) aU.nil) ?_
  exact(by rw[mb];rfl)
theorem Kl {s:Server} {slot:Int} (he:aQ slot 0 2=true→(ab s.aR slot.toNat).bO≤9999):(!s.up||!aQ slot 0 2||((ab s.aR slot.toNat).er !=1)||((ab s.aR slot.toNat).bO==9999))=!kR s slot:=by
 unfold kR
 cases h:aQ slot 0 2
 ·simp
 ·have:=he h
  have e:((ab s.aR slot.toNat).bO==9999)=!decide ((ab s.aR slot.toNat).bO<9999):=by rw[Bool.eq_iff_iff];simp;omega
  rw[e];simp[bne]
theorem Km {s:Server} {m:aD} (ho:(cJ m.bc&&(bV m.bc !=bV s.site))=true):(((m.aq.length:Int) !=1)||!eW s (ab m.aq 0).key||!(bV (ab m.aq 0).aA.site !=bV s.site))=!rn s m:=by
 have e:((m.aq.length:Int) !=1)=!decide (m.aq.length=1):=by rw[Bool.eq_iff_iff];simp;omega
 unfold rn
 rw[e,ho];simp
theorem td (k t c:Int) (st:ct) (v:Int) (sl e:Int):iV ⟨k,0,0,c,t,st,v,false,[],sl,e,[],[],[]⟩:=⟨Nat.zero_le _,⟨Nat.zero_le _,fun _ h=>by cases h⟩,⟨Nat.zero_le _,fun _ h=>by cases h⟩,Nat.zero_le _⟩
theorem Tz (s:Server) (hg:bw s):
 Fn Tryz.prog 138 [s.av] ((nT s).av):=by
 refine Fn.intro 12 Tryz.func138 rfl Tryz.ntmps138 rfl (by kernel_rfl) (fun W I a hs=>?_)
 have al:=iw.2 hg
 have cH:=hg.ok
 have gI:=hg.small
 refine az fun I a w hs=>?_
 refine hs.alloc rfl ba df fun b2 I a w hs=>?_
 refine az fun I a w hs=>?_
 refine hs.o (.c1 (tZ ..)) fun hs=>hs.o .nt fun hs=>nn ?_
 refine hs.cd (fun ae=>?_) fun ae=>?_
 ·exfalso;rw[al] at ae;cases ae
  skip
 ·skip
  refine az fun I a w hs=>?_
  refine hs.o (.c1 (qk s gI)) fun hs=>hs.alloc rfl ba df fun b3 I a w hs=>?_
  refine aW fun I a w hs=>?_
  refine nn<|wp_ret ?_
  refine hs.ret rfl (.cons (.s 0 ba rfl rfl (by first|rfl|assumption)) aU.nil) ?_
  rfl
theorem TA (s:Server) (hg:bw s):
 Fn Tryz.prog 137 [s.av] ((nS s).av):=by
 refine Fn.intro 13 Tryz.func137 rfl Tryz.ntmps137 rfl (by kernel_rfl) (fun W I a hs=>?_)
 have al:=iw.2 hg
 have cH:=hg.ok
 have gI:=hg.small
 refine az fun I a w hs=>?_
 refine hs.alloc rfl ba df fun b2 I a w hs=>?_
 refine az fun I a w hs=>?_
 refine hs.o (.c1 (tZ ..)) fun hs=>hs.o .nt fun hs=>nn ?_
 refine hs.cd (fun ae=>?_) fun ae=>?_
 ·exfalso;rw[al] at ae;cases ae
  skip
 ·skip
  refine az fun I a w hs=>?_
  refine hs.o (.c1 (qk s gI)) fun hs=>hs.alloc rfl ba df fun b3 I a w hs=>?_
  refine aJ fun I a w hs=>?_
  refine hs.AN 1 kr .tt (At.nil (sz:=3) .c) (by first|exact iY rfl|exact jj|exact jk|exact jl) rfl rfl fun a w hs=>?_
  refine ai fun I a w hs=>?_
  refine nn<|wp_ret ?_
  refine hs.ret rfl (.cons (.s 0 ba rfl rfl (by first|rfl|assumption)) aU.nil) ?_
  rfl
set_option maxHeartbeats 4000000 in
theorem TB (s:Server) (slot:Int) (hg:bw s):
 Fn Tryz.prog 140 [s.av,AV.int slot] (AV.c9 [(dP s slot).1.av,(dP s slot).2.1.av,AV.bool (dP s slot).2.2]):=by
 refine Fn.intro 59 Tryz.func140 rfl Tryz.ntmps140 rfl (by kernel_rfl) (fun W I a hs=>?_)
 have al:=iw.2 hg
 have cH:=hg.ok
 have gI:=hg.small
 have h3:=hg.aR
 have Kn:aQ slot 0 2=true→(ab s.aR slot.toNat).bO≤9999:=fun hi=>by have h9:=hg.eD _ (bx (l:=s.aR) (k:=slot.toNat) (by simp[aQ] at hi;omega));exact(sV.1 h9).2.1
 have e9:∀x,x=dt.cells ⟨(ab s.aR slot.toNat).bO+1,2⟩→(List.map dt.cells s.aR).set slot.toNat x=List.map dt.cells (ly s slot).aR:=fun x h=>by rw[h];exact List.map_set.symm
 refine az fun I a w hs=>?_
 refine hs.alloc rfl ba df fun b4 I a w hs=>hs.alloc rfl cj dB fun b5 I a w hs=>?_
 refine ai fun I a w hs=>?_
 refine hs.o (.c1 (tZ ..)) fun hs=>hs.o .nt fun hs=>nn ?_
 refine hs.cd (fun ae=>?_) fun ae=>?_
 ·exfalso;rw[al] at ae;cases ae
  skip
 ·skip
  refine az fun I a w hs=>?_
  refine hs.cW [] (wS s gI) (aw .tt aP) rfl (by decide) rfl fun⟨vS,vV,vW,vO,vK⟩ I a w uL hs=>?_
  unfold Server.IF at hs
  have hs:=hs.nf
  refine hs.alloc rfl ba df fun b7 I a w hs=>?_
  refine hs.sb 7 fun hs=>?_
  refine wpList_nil ?_
  obtain⟨I,hs⟩:=hs.fu 3 3 7
  obtain⟨I,hs⟩:=hs.fu 4 4 7
  obtain⟨I,hs⟩:=hs.fu 5 5 7
  obtain⟨I,hs⟩:=hs.fu 6 6 7
  have hs:=hs.nf
  refine aW fun I a w hs=>?_
  refine hs.q .F (.cl (hC ..)) fun hs=>?_
  refine cx fun I a w hs=>?_
  refine hs.q .F ((by first|exact eZ ea dz .ag .ag (fun hg=>by simp[aQ] at hg;omega)|exact iM ea dz .ag .ag (fun hg=>by simp[aQ] at hg;omega)|exact iX ea dz .ag .ag (fun hg=>by simp[aQ] at hg;omega))) fun hs=>?_
  refine gi fun I a w hs=>?_
  refine hs.q .F ((by first|exact eZ ea dz .ag .ag (fun hg=>by simp[aQ] at hg;omega)|exact iM ea dz .ag .ag (fun hg=>by simp[aQ] at hg;omega)|exact iX ea dz .ag .ag (fun hg=>by simp[aQ] at hg;omega))) fun hs=>?_
  refine aJ fun I a w hs=>?_
  refine nn ?_
  refine hs.cd (fun ah=>?_) fun ah=>?_
  ·rw[Kl Kn] at ah;replace ah:=nt ah
   obtain⟨I,hs⟩:=hs.fu 2 2 7
   refine sr<|hs.o (.ls 7) fun hs=>?_
   refine hs.o (.bd dB aZ.nil) fun hs=>?_
   refine aB fun I a w hs=>?_
   refine nn<|wp_ret<|aE ?_
   refine hs.ret rfl (.cons (.s 0 ba rfl rfl (by first|rfl|assumption)) (.cons (.s 1 cj rfl rfl (by first|rfl|assumption)) (.cons (.t rfl) aU.nil))) ?_
   exact(by unfold dP;rw[ah];rfl)
  ·rw[Kl Kn] at ah;replace ah:=nf ah;have Ti:=w6 ah;have Tj:=sV.1 (zi hg (i:=slot.toNat) (by omega));have tc:=zj hg ah
   refine wp_skip<|aG<|wp_seq ?_
   obtain⟨bS,cS,rfl⟩:=hs.g8 2 rfl (by rw[List.length_map];omega)
   refine hs.dp 12 (by kernel_rfl) (by kernel_rfl) (by kernel_rfl) ?_
   simp only[List.take_succ_cons,List.take_zero,List.drop_succ_cons,List.drop_zero]
   refine bz ?_
   refine .o (.lb 7) ?_
   refine mJ ?_
   refine .o (.bd lZ (.k (.k aZ.nil))) ?_
   refine .o (gv ea dz .tt .tt (fun _=>by simp only[List.length_map];omega)) ?_
   refine .nil ?_
   intro I a w hs
   refine hs.jx 2 dz .tt .tt rfl (by exact ek (by omega)) rfl rfl fun a w hs=>?_
   refine nn<|wp_seq ?_
   rw[e9] at hs
   rotate_left
   ·rfl
   obtain⟨I,hs⟩:=hs.fu 2 2 7
   have hs:=hs.nf
   refine hs.dp 4 (by kernel_rfl) (by kernel_rfl) (by kernel_rfl) ?_
   simp only[List.take_succ_cons,List.take_zero,List.drop_succ_cons,List.drop_zero]
   refine .o (.ls 7)<|.o (.ls 7) ?_
   refine bz ?_
   refine .o (cI (Kg (ly s slot) slot tc.small tc.site tc.aR (by omega)) (aw (.t rfl) (aw (.t rfl) aP))) ?_
   refine .nil ?_
   intro I a w hs
   refine aB fun I a w hs=>?_
   refine nn<|wp_ret ?_
   refine hs.ret rfl (.cons (.s 0 ba rfl rfl (by first|rfl|assumption)) (.cons (.s 1 cj rfl rfl (by first|rfl|assumption)) (.cons (.t rfl) aU.nil))) ?_
   exact(by unfold dP;rw[ah];rfl)
end Go.Proofs.YtoeioeimmfpefaaGreat
