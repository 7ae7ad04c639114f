/- Part 24: rules of the proofs, contracts of functions, plain facts. -/
import Derived.Test.YtoeioeimmfpefaaGreatP23
set_option linter.unusedVariables false
set_option linter.unusedSimpArgs false
set_option maxRecDepth 100000
set_option maxHeartbeats 4000000
namespace Go.Proofs.YtoeioeimmfpefaaGreat
open Go Go.RowKit
attribute [local irreducible] wpList Code.wp Ok
theorem lC {α:Type} [Inhabited α] {p:α→Bool} {l:List α} {k:Nat} (h:k<l.length) (hp:p (ab l k)=true):(l.take (k+1)).filter p=(l.take k).filter p++[ab l k]:=by
 rw[dL h,List.filter_append,List.filter_cons,hp];rfl
theorem lD {α:Type} [Inhabited α] {p:α→Bool} {l:List α} {k:Nat} (h:k<l.length) (hp:p (ab l k)=false):(l.take (k+1)).filter p=(l.take k).filter p:=by
 rw[dL h,List.filter_append,List.filter_cons,hp];simp
theorem oM {α:Type} (p:α→Bool) (l:List α) (k:Nat):((l.take k).filter p).length≤l.length:=by
 have h1:=List.length_filter_le p (l.take k)
 have h2:(l.take k).length≤l.length:=by simp;omega
 omega
theorem IH {l:List aK} (v:aK) (hc:cg l=true):(!et v||(iQ l ⟨v.key,v.aA⟩).isSome||decide (80≤(l.length:Int)))=!gV l v:=by
 rw[ub hc]
 have e:decide (80≤(l.length:Int))=!decide (l.length<80):=by rw[Bool.eq_iff_iff];simp;omega
 have e2:decide (0≤placeOf l ⟨v.key,v.aA⟩)=!decide (placeOf l v.bH<0):=by
  show decide (0≤placeOf l v.bH)=_
  rw[Bool.eq_iff_iff];simp
 unfold gV
 rw[e,e2];simp
theorem sS {l:List aK} {v:aK} (h:gV l v=true):et v=true∧placeOf l v.bH<0∧l.length<80:=by
 unfold gV at h
 simp only[Bool.and_eq_true,decide_eq_true_eq] at h
 exact⟨h.1.1,h.1.2,h.2⟩
theorem wU (e d:ar):([e.key,e.aA.time,e.aA.site]==[d.key,d.aA.time,d.aA.site])=decide (e=d):=by
 obtain⟨k,⟨t,s⟩⟩:=d
 obtain⟨k',⟨t',s'⟩⟩:=e
 rw[Bool.eq_iff_iff];simp
theorem II {α:Type} [Inhabited α] {p:α→Bool} {l:List α} {k:Nat} (hk:k<l.length) (h:∀i,i<k→p (ab l i)=false) (hp:p (ab l k)=true):l.find? p=some (ab l k):=by
 rw[List.find?_eq_some_iff_getElem]
 refine⟨hp,k,hk,by simp[ab,hk],fun j hj=>?_⟩
 have jy:j<l.length:=by omega
 have:=h j hj
 simpa[ab,jy] using this
theorem IJ {α:Type} [Inhabited α] {p:α→Bool} {l:List α} {k:Nat} (hk:l.length≤k) (h:∀i,i<k→p (ab l i)=false):l.find? p=none:=by
 rw[List.find?_eq_none]
 intro x hx
 obtain⟨i,hi,rfl⟩:=hO hx
 rw[h i (by omega)];simp
theorem CI {a:Bool} {key:Int} (h:(a&&cU key)=true):0≤gx key∧gx key<3:=nF (by rw[Bool.and_eq_true] at h;exact h.2)
theorem wV {s:Server} (h:fV s=true):s.aR.length=3∧cg s.aq=true∧cg s.waits=true∧fe s.aH=true∧fe s.bq=true∧cJ s.site=true:=by
 simp only[fV,Bool.and_eq_true] at h
 exact Ca h.1.1.1.1
set_option maxHeartbeats 4000000 in
theorem QR (n:Int) (l:List ct) (hn:cJ n=true) (hl:∀s∈l,c6 s=true):
 Fn Tryz.prog 210 [AV.int n,AV.rows 2 (l.map ct.cells)] (AV.c9 [(nP n l).av,AV.bool (iG l)]):=by
 refine Fn.intro 44 Tryz.func210 rfl Tryz.ntmps210 rfl (by kernel_rfl) (fun W I a hs=>?_)
 have hle:=hs.ew (t:=1) rfl
 refine sr<|hs.alloc rfl gj iC fun b4 I a w hs=>?_
 refine ai fun I a w hs=>?_
 refine hs.o (.c1 (oA ..)) fun hs=>hs.o .nt fun hs=>nn ?_
 refine hs.cd (fun ae=>?_) fun ae=>?_
 ·exfalso;rw[hn] at ae;cases ae
  skip
 ·skip
  refine ai fun I a w hs=>?_
  refine nn<|wp_block ?_
  refine St.lo (σ:=Nat) (run 3 5 (run 25 12 [])) ⟨fun k=>[(7,AV.int k),(6,AV.int (mf (l.take k)))],fun k=>[Own.box b4 48 [AV.val (.int .i64 0),AV.val (.int .i64 0)]],fun k=>k≤l.length⟩ (fun k=>l.length-k) 0 hs ?aN ?aO
  case aN=>exact Nat.zero_le _
  case aO=>
   rintro k I a w al hs
   have hk:k≤l.length:=al
   refine aJ fun I a w hs=>?_
   refine nn ?_
   refine hs.cd (fun ah=>?_) fun ah=>?_
   ·try simp only[B] at ah
    refine aJ fun I a w hs=>?_
    refine hs.o (.c1 (sC ..)) fun hs=>hs.o .nt fun hs=>nn ?_
    refine hs.cd (fun aj=>?_) fun aj=>?_
    ·exfalso;simp only[B] at aj;rw[hl _ (bx ah)] at aj;cases aj
     skip
    ·skip
     refine dq fun I a w hs=>?_
     refine nn ?_
     refine hs.cd (fun aI=>?_) fun aI=>?_
     ·try simp only[B] at aI
      refine jR fun I a w hs=>?_
      refine nn ?_
      refine hs.again (k+1) ?gS ?gT (by rfl) ?gU (by repeat(first|exact Env.le_rfl|refine Env.ie rfl ?_))
      case gS=>omega
      case gT=>exact ah
      case gU=>exact(Env.dI rfl (by rfl) (Env.dI rfl (by first|exact congrArg AV.int (by rw[wM ah,if_pos aI])|exact congrArg AV.int (by rw[wM ah,if_neg (by omega)])) Env.le_nil))
     ·try simp only[B] at aI
      refine aB fun I a w hs=>?_
      refine nn ?_
      refine hs.again (k+1) ?nK ?nL (by rfl) ?nM (by repeat(first|exact Env.le_rfl|refine Env.ie rfl ?_))
      case nK=>omega
      case nL=>exact ah
      case nM=>exact(Env.dI rfl (by rfl) (Env.dI rfl (by first|exact congrArg AV.int (by rw[wM ah,if_pos aI])|exact congrArg AV.int (by rw[wM ah,if_neg (by omega)])) Env.le_nil))
   ·try simp only[B] at ah
    refine wp_exit<|aF<|aF<|aY ?_
    refine ai fun I a w hs=>?_
    refine nn ?_
    refine hs.cd (fun aL=>?_) fun aL=>?_
    ·try simp only[B] at aL
     refine sr ?_
     refine hs.o (.bd iC aZ.nil) fun hs=>?_
     refine ai fun I a w hs=>?_
     refine nn<|wp_ret<|aE ?_
     rw[List.take_of_length_le (by omega)] at aL
     refine hs.ret rfl (.cons (.s 0 gj rfl rfl (by first|rfl|assumption)) (.cons (.t rfl) aU.nil)) ?_
     have e:iG l=false:=by unfold iG;simp;omega
     exact(by unfold nP;rw[e];rfl)
    ·try simp only[B] at aL
     refine az fun I a w hs=>?_
     refine hs.o (jM .tt .c (fun _=>by have:=yX hl k;omega)) fun hs=>?_
     refine hs.m fun hs=>?_
     refine hs.o (.bd iC (.k (.k aZ.nil))) fun hs=>?_
     refine ai fun I a w hs=>?_
     refine nn<|wp_ret ?_
     rw[List.take_of_length_le (by omega)] at aL
     refine hs.ret rfl (.cons (.s 0 gj rfl rfl (by first|rfl|assumption)) (.cons (.t rfl) aU.nil)) ?_
     have e:iG l=true:=by unfold iG;simp;omega
     exact(by unfold nP;rw[e,List.take_of_length_le (by omega)];rfl)
set_option maxHeartbeats 4000000 in
theorem IK (l:List aK) (key:Int) (hc:cg l=true):
 Fn Tryz.prog 209 [cv l,AV.int key] (AV.c9 [((fG l key).getD default).av,AV.bool (fG l key).isSome]):=by
 refine Fn.intro 31 Tryz.func209 rfl Tryz.ntmps209 rfl (by kernel_rfl) (fun W I a hs=>?_)
 have hle:=hs.ew (t:=0) rfl
 have wW:=gn hc
 refine sr<|hs.alloc rfl bt dO fun b4 I a w hs=>?_
 refine ai fun I a w hs=>?_
 refine hs.o (.cl (qV ..)) fun hs=>?_
 refine hs.o .nt fun hs=>nn ?_
 refine hs.cd (fun ae=>?_) fun ae=>?_
 ·exfalso;rw[hc] at ae;cases ae
  skip
 ·skip
  refine aJ fun I a w hs=>?_
  refine nn<|wp_block ?_
  refine St.lo (σ:=Nat) (run 2 5 (run 16 14 [])) ⟨fun j=>[(6,AV.int ((j:Int)-1))],fun j=>[Own.box b4 100 [AV.val (.int .i64 0),AV.val (.int .i64 0),AV.val (.int .i64 0),AV.val (.int .i64 0),AV.val (.int .i64 0),AV.val (.int .i64 0),AV.rows 3 []]],fun j=>j≤l.length∧∀i,j≤i→i<l.length→qf key (ab l i)=false⟩ (fun j=>j) l.length hs ?aN ?aO
  case aN=>exact⟨Nat.le_refl _,fun i h1 h2=>by omega⟩
  case aO=>
   rintro j I a w al hs
   obtain⟨hk,aT⟩:=al
   refine ai fun I a w hs=>?_
   refine nn ?_
   refine hs.cd (fun ah=>?_) fun ah=>?_
   ·try simp only[B] at ah
    refine dq fun I a w hs=>?_
    refine nn ?_
    refine hs.cd (fun aj=>?_) fun aj=>?_
    ·skip
     refine aJ fun I a w hs=>?_
     refine hs.o (cI (mN _ (by have:=rm hc _ (bx (k:=((j:Int)-1).toNat) (by omega));omega)) (aw (.t rfl) aP)) fun hs=>?_
     refine ai fun I a w hs=>?_
     refine nn<|wp_ret<|bh<|aE<|aE<|bh<|aE ?_
     refine hs.ret rfl (.cons (.s 0 bt rfl rfl (by first|rfl|assumption)) (.cons (.t rfl) aU.nil)) ?_
     exact(by rw[Iy (k:=((j:Int)-1).toNat) (by omega) (fun i h1 h2=>aT i (by omega) h2) aj];rfl)
    ·skip
     refine aB fun I a w hs=>?_
     refine nn ?_
     refine hs.again (j-1) ?gS ?gT (by rfl) ?gU (by repeat(first|exact Env.le_rfl|refine Env.ie rfl ?_))
     case gS=>omega
     case gT=>exact⟨by omega,fun i h1 h2=>by by_cases h:i=((j:Int)-1).toNat;(subst h;exact aj);exact aT i (by omega) h2⟩
     case gU=>exact(Env.dI rfl (by first|rfl|exact congrArg AV.int (by omega)) Env.le_nil)
   ·try simp only[B] at ah
    refine wp_exit<|aF<|aF<|aY<|aG<|sr ?_
    refine hs.o (.bd dO aZ.nil) fun hs=>?_
    refine ai fun I a w hs=>?_
    refine nn<|wp_ret ?_
    refine hs.ret rfl (.cons (.s 0 bt rfl rfl (by first|rfl|assumption)) (.cons (.t rfl) aU.nil)) ?_
    exact(by rw[Iz fun i h=>aT i (by omega) h];rfl)
set_option maxHeartbeats 4000000 in
theorem y7 (l:List aK) (v:aK) (hc:cg l=true):
 Fn Tryz.prog 153 [cv l,v.av] (AV.c9 [cv (if gV l v then eE l v else l),AV.bool (gV l v)]):=by
 refine Fn.intro 37 Tryz.func153 rfl Tryz.ntmps153 rfl (by kernel_rfl) (fun W I a hs=>?_)
 have hle:=hs.ew (t:=0) rfl
 have wW:=gn hc
 have gR:=rm hc
 refine aJ fun I a w hs=>?_
 refine hs.o (.cl (qV ..)) fun hs=>?_
 refine hs.o .nt fun hs=>nn ?_
 refine hs.cd (fun ae=>?_) fun ae=>?_
 ·exfalso;rw[hc] at ae;cases ae
  skip
 ·skip
  refine aW fun I a w hs=>?_
  refine hs.o (.cl (pX ..)) fun hs=>?_
  refine aB fun I a w hs=>?_
  refine hs.alloc rfl bt dO fun b6 I a w hs=>?_
  refine hs.sb 0 fun hs=>?_
  obtain⟨I,hs⟩:=hs.fb 0 6
  refine ai fun I a w hs=>?_
  refine hs.o (.c1 (B1 ..)) fun hs=>?_
  refine jR fun I a w hs=>?_
  refine nn ?_
  refine hs.cd (fun ah=>?_) fun ah=>?_
  ·rw[IH v hc] at ah;replace ah:=nt ah
   refine az fun I a w hs=>?_
   refine hs.o (cI (sR l (by omega) (fun u hu=>by have:=gR u hu;omega)) (aw .r aP)) fun hs=>?_
   refine ai fun I a w hs=>?_
   refine nn<|wp_ret<|aE ?_
   refine hs.rt ?_
   exact(by rw[ah];rfl)
  ·rw[IH v hc] at ah;replace ah:=nf ah
   refine ai fun I a w hs=>?_
   refine hs.o (cI (QI l v (by omega) (fun u hu=>by have:=gR u hu;omega) (by have:=gm (CG (sS ah).1);omega)) (aw .r (aw (.t rfl) aP))) fun hs=>?_
   refine ai fun I a w hs=>?_
   refine nn<|wp_ret ?_
   refine hs.rt ?_
   exact(by rw[ah,←Iu (oK (sS ah).2.1)];rfl)
set_option maxHeartbeats 4000000 in
theorem y8 (l:List aK) (slot:Int) (hc:cg l=true):
 Fn Tryz.prog 215 [cv l,AV.int slot] (AV.c9 [cv (l.filter (eF slot)),cv (l.filter (fun v=>!eF slot v))]):=by
 refine Fn.intro 48 Tryz.func215 rfl Tryz.ntmps215 rfl (by kernel_rfl) (fun W I a hs=>?_)
 have hle:=hs.ew (t:=0) rfl
 have wW:=gn hc
 have gR:=rm hc
 refine ai fun I a w hs=>?_
 refine nn<|sr ?_
 refine hs.cT rfl cM bt (by decide) fun b9 I a w hs=>?_
 refine hs.s fun hs=>nn<|sr ?_
 refine hs.cT rfl cM bt (by decide) fun kb I a w hs=>?_
 refine ai fun I a w hs=>?_
 refine hs.o (.cl (qV ..)) fun hs=>?_
 refine hs.o .nt fun hs=>nn ?_
 refine hs.cd (fun ae=>?_) fun ae=>?_
 ·exfalso;rw[hc] at ae;cases ae
  skip
 ·skip
  refine az fun I a w hs=>?_
  refine nn<|wp_block ?_
  refine St.lo (σ:=Nat×Value×Value) (run 3 6 (run 30 16 [])) ⟨fun⟨k,u,v⟩=>[(8,AV.int k),(6,AV.val u),(7,AV.val v)],fun⟨k,u,v⟩=>[Own.row u 100 7 (((l.take k).filter (eF slot)).map aK.cells),Own.row v 100 7 (((l.take k).filter (fun v=>!eF slot v)).map aK.cells)],fun⟨k,u,v⟩=>k≤l.length⟩ (fun⟨k,u,v⟩=>l.length-k) (0,.slice (some ⟨b9,0,none⟩) 0 0,.slice (some ⟨kb,0,none⟩) 0 0) hs ?aN ?aO
  case aN=>exact Nat.zero_le _
  case aO=>
   rintro⟨k,u,v⟩ I a w al hs
   have hk:k≤l.length:=al
   have IL:=oM (eF slot) l k
   have IM:=oM (fun v=>!eF slot v) l k
   dsimp only at hs
   refine aJ fun I a w hs=>?_
   refine nn ?_
   refine hs.cd (fun ah=>?_) fun ah=>?_
   ·try simp only[B] at ah
    refine aW fun I a w hs=>?_
    refine hs.o (.c1 (qW ..)) fun hs=>?_
    refine ai fun I a w hs=>?_
    refine nn ?_
    refine hs.cd (fun aj=>?_) fun aj=>?_
    ·change eF slot (ab l k)=true at aj
     refine aW fun I a w hs=>?_
     refine hs.o (cI (mN _ (by have:=gR _ (bx ah);omega)) (aw (.t rfl) aP)) fun hs=>?_
     refine hs.o (.li [(ab l k).cells] jD (.u .nil)) fun hs=>?_
     refine hs.append 0 rfl cM bt rfl .tt .r rfl (by simp;omega) fun wL a w hs=>?_
     rw[ck,←lC ah aj,show(l.take k).filter (fun v=>!eF slot v)=(l.take (k+1)).filter (fun v=>!eF slot v) from(lD ah (by show(!eF slot _)=false;rw[aj];rfl)).symm] at hs
     refine aJ fun I a w hs=>?_
     refine nn ?_
     exact hs.ag (k+1,wL,v) (ah)
    ·change eF slot (ab l k)=false at aj
     refine aW fun I a w hs=>?_
     refine hs.o (cI (mN _ (by have:=gR _ (bx ah);omega)) (aw (.t rfl) aP)) fun hs=>?_
     refine hs.o (.li [(ab l k).cells] jD (.u .nil)) fun hs=>?_
     refine hs.append 1 rfl cM bt rfl .tt .r rfl (by simp;omega) fun CJ a w hs=>?_
     rw[ck,←lC (p:=(fun v=>!eF slot v)) ah (by show(!eF slot _)=true;rw[aj];rfl),show(l.take k).filter (eF slot)=(l.take (k+1)).filter (eF slot) from(lD ah aj).symm] at hs
     refine aJ fun I a w hs=>?_
     refine nn ?_
     exact hs.ag (k+1,u,CJ) (ah)
   ·try simp only[B] at ah
    refine wp_exit<|aF<|aF<|aY ?_
    refine aJ fun I a w hs=>?_
    refine nn<|wp_ret ?_
    obtain⟨I,hs⟩:=hs.fr 0 4
    obtain⟨I,hs⟩:=hs.fr 1 5
    refine hs.rt ?_
    exact(by rw[List.take_of_length_le (by omega)];rfl)
theorem wX (l:List ar) (d:ar):
 Fn Tryz.prog 190 [bl l,d.av] (AV.int (fH l d)):=by
 refine Fn.intro 19 Tryz.func190 rfl Tryz.ntmps190 rfl (by kernel_rfl) (fun W I a hs=>?_)
 have hle:=hs.ew (t:=0) rfl
 refine aB fun I a w hs=>?_
 refine nn<|wp_block ?_
 refine St.lo (σ:=Nat) (run 15 4 []) ⟨fun k=>[(5,AV.int k)],fun k=>[],fun k=>k≤l.length∧∀i,i<k→(fun e=>decide (e=d)) (ab l i)=false⟩ (fun k=>l.length-k) 0 hs ?aN ?aO
 case aN=>exact⟨Nat.zero_le _,fun i hi=>by omega⟩
 case aO=>
  rintro k I a w al hs
  obtain⟨hk,aT⟩:=al
  refine aJ fun I a w hs=>?_
  refine nn ?_
  refine hs.cd (fun ae=>?_) fun ae=>?_
  ·try simp only[B] at ae
   refine wp_skip<|aG<|wp_seq<|wp_block<|wp_seq<|hs.dk ?_
   refine eK ?_
   refine .o (lf [_,_,_] [_,_,_] tU rfl rfl .tt .tt)<|.nil ?_
   intro I a w hs
   refine aG ?_
   refine hs.cd (fun ah=>?_) fun ah=>?_
   ·rw[wU] at ah
    refine ai fun I a w hs=>?_
    refine nn<|wp_ret<|bh<|aE<|aE<|bh<|aE ?_
    refine hs.rt ?_
    exact fk (mM ae aT ah).symm
   ·rw[wU] at ah
    refine aB fun I a w hs=>?_
    refine nn ?_
    exact hs.ag (k+1) (⟨ae,fun i h1=>by rcases Nat.lt_succ_iff_lt_or_eq.1 h1 with h|h;exact aT i h;rw[h];exact ah⟩)
  ·try simp only[B] at ae
   refine wp_exit<|aF<|aF<|aY ?_
   refine az fun I a w hs=>?_
   refine nn<|wp_ret ?_
   refine hs.rt ?_
   exact fk (l5 (by omega) aT).symm
set_option maxHeartbeats 4000000 in
theorem CK (l:List ar) (d:ar) (h:l.length≤1048575):
 Fn Tryz.prog 211 [bl l,d.av] (bl (dV l d)):=by
 refine Fn.intro 72 Tryz.func211 rfl Tryz.ntmps211 rfl (by kernel_rfl) (fun W I a hs=>?_)
 refine aJ fun I a w hs=>?_
 refine hs.o (.cl (wX ..)) fun hs=>?_
 refine hs.o .NK fun hs=>nn ?_
 refine hs.cd (fun ae=>?_) fun ae=>?_
 ·try simp only[B] at ae
  refine sr ?_
  refine hs.cT rfl bA bk (by decide) fun sK I a w hs=>?_
  refine hs.m fun hs=>?_
  refine hs.append 0 rfl bA bk rfl .tt .r rfl (by simp;omega) fun jY a w hs=>?_
  obtain⟨I,hs⟩:=hs.fr 0 14
  refine hs.s fun hs=>nn<|wp_ret<|aE ?_
  refine hs.rt ?_
  exact congrArg (AV.rows 3) (by unfold dV;rw[if_pos ae];rfl)
 ·try simp only[B] at ae
  refine wp_skip<|aG<|sr ?_
  refine hs.cT rfl bA bk (by decide) fun CL I a w hs=>?_
  refine aB fun I a w hs=>?_
  refine nn<|wp_block ?_
  refine St.lo (σ:=Nat×Bool×List ar×Value) (run 3 5 (run 49 16 [])) ⟨fun⟨k,done,out,u⟩=>[(7,AV.int k),(6,AV.bool done),(5,AV.val u)],fun⟨k,done,out,u⟩=>[Own.row u 97 3 (out.map ar.cells)],fun⟨k,done,out,u⟩=>kD l d k done out⟩ (fun⟨k,done,out,u⟩=>l.length-k) (0,false,[],.slice (some ⟨CL,0,none⟩) 0 0) hs ?aN ?aO
  case aN=>exact kD.zero l d
  case aO=>
   rintro⟨k,done,out,u⟩ I a w al hs
   have hp:kD l d k done out:=al
   have hk:=hp.hk
   have gf:=hp.len
   have nr:done.toNat≤1:=by cases done<;>simp
   dsimp only at hs
   refine aJ fun I a w hs=>?_
   refine nn ?_
   refine hs.cd (fun ah=>?_) fun ah=>?_
   ·try simp only[B] at ah
    refine wp_skip<|aG<|wp_seq<|wp_block<|wp_seq<|wp_seq<|hs.dk ?_
    refine lY ?_
    refine yl ?_
    refine .q .T2 (.cl (tW ..)) ?_
    refine du ?_
    refine .nil ?_
    intro I a w hs
    refine aG ?_
    refine hs.cd (fun aj=>?_) fun aj=>?_
    ·rw[IC] at aj;simp only[B] at aj
     refine ai fun I a w hs=>?_
     refine hs.o (.li [d.cells] fU (.u .nil)) fun hs=>?_
     refine hs.append 0 rfl bA bk rfl .tt .r rfl (by simp;omega) fun v57 a w hs=>?_
     rw[ck] at hs
     refine dq fun I a w hs=>?_
     refine hs.o (.li [(ab l k).cells] fU (.u .nil)) fun hs=>?_
     refine hs.append 0 rfl bA bk rfl .tt .r rfl (by simp;omega) fun CM a w hs=>?_
     rw[ck] at hs
     refine aJ fun I a w hs=>?_
     refine nn ?_
     exact hs.ag (k+1,true,(out++[d])++[ab l k],CM) (by obtain⟨h1,h2⟩:=aj;subst h1;exact hp.before ah h2)
    ·rw[IC] at aj;simp only[B] at aj
     refine aW fun I a w hs=>?_
     refine hs.o (.li [(ab l k).cells] fU (.u .nil)) fun hs=>?_
     refine hs.append 0 rfl bA bk rfl .tt .r rfl (by simp;omega) fun CM a w hs=>?_
     rw[ck] at hs
     refine aJ fun I a w hs=>?_
     refine nn ?_
     exact hs.ag (k+1,done,out++[ab l k],CM) (hp.step ah (by simpa using aj))
   ·try simp only[B] at ah
    refine wp_exit<|aF<|aF<|aY ?_
    refine ai fun I a w hs=>?_
    refine nn ?_
    refine hs.cd (fun aI=>?_) fun aI=>?_
    ·try simp only[B] at aI
     refine ai fun I a w hs=>?_
     refine hs.o (.li [d.cells] fU (.u .nil)) fun hs=>?_
     refine hs.append 0 rfl bA bk rfl .tt .r rfl (by simp;omega) fun v70 a w hs=>?_
     rw[ck] at hs
     refine aB fun I a w hs=>?_
     refine nn<|wp_ret ?_
     obtain⟨I,hs⟩:=hs.fr 0 4
     refine hs.rt ?_
     exact congrArg (AV.rows 3) (by subst aI;unfold dV;rw[if_neg (by omega)];exact hp.p4 (by omega)▸rfl)
    ·try simp only[B] at aI
     refine ai fun I a w hs=>?_
     refine nn<|wp_ret ?_
     obtain⟨I,hs⟩:=hs.fr 0 4
     refine hs.rt ?_
     exact congrArg (AV.rows 3) (by subst aI;unfold dV;rw[if_neg (by omega),hp.pZ (by omega)])
theorem IN (s:Server) (d:ar) (hc:cg s.aq=true):
 Fn Tryz.prog 189 [s.av,d.av] (AV.bool (mg s d)):=by
 refine Fn.intro 25 Tryz.func189 rfl Tryz.ntmps189 rfl (by kernel_rfl) (fun W I a hs=>?_)
 refine jR fun I a w hs=>?_
 refine hs.o (.cl (pX ..)) fun hs=>?_
 refine aB fun I a w hs=>?_
 refine hs.alloc rfl bt dO fun b5 I a w hs=>?_
 refine hs.sb 0 fun hs=>?_
 obtain⟨I,hs⟩:=hs.fb 0 5
 refine cx fun I a w hs=>?_
 refine hs.q .F (.cl (wX ..)) fun hs=>?_
 refine aB fun I a w hs=>?_
 refine nn<|wp_ret ?_
 refine hs.rt ?_
 exact bM (by unfold mg;rw[ub hc])
theorem QS (s:Server) (v:aK) (hc:cg s.aq=true):
 Fn Tryz.prog 232 [s.av,v.av] (AV.bool (yY s v)):=by
 refine Fn.intro 21 Tryz.func232 rfl Tryz.ntmps232 rfl (by kernel_rfl) (fun W I a hs=>?_)
 have lens:v.aS.length≤9223372036854775807:=by
  obtain⟨cs,_,hc⟩:=hs.env 1 _ rfl
  obtain⟨u0,_,h0,_⟩:=hc.get (i:=6) rfl
  exact bL h0
 refine aJ fun I a w hs=>?_
 refine nn<|wp_block ?_
 refine St.lo (σ:=Nat) (run 17 4 []) ⟨fun k=>[(5,AV.int k)],fun k=>[],fun k=>k≤v.aS.length∧∀i,i<k→(fun i=>mg s (ab v.aS i)) i=true⟩ (fun k=>v.aS.length-k) 0 hs ?aN ?aO
 case aN=>exact⟨Nat.zero_le _,fun i hi=>by omega⟩
 case aO=>
  rintro k I a w al hs
  obtain⟨pY,aT⟩:=al
  refine aW fun I a w hs=>?_
  refine nn ?_
  refine hs.cd (fun ae=>?_) fun ae=>?_
  ·try simp only[B] at ae
   refine wp_skip<|aG<|wp_seq<|wp_block<|wp_seq<|hs.dk ?_
   refine fP ?_
   refine .o (.c2 (IN _ _ hc)) ?_
   refine bz ?_
   refine .nil ?_
   intro I a w hs
   refine aG ?_
   refine hs.cd (fun ah=>?_) fun ah=>?_
   ·try simp only[B] at ah
    refine az fun I a w hs=>?_
    refine nn<|wp_ret<|bh<|aE<|aE<|bh<|aE ?_
    refine hs.rt ?_
    exact bM (eP (f:=fun i=>mg s (ab v.aS i)) ae ah).symm
   ·try simp only[B] at ah
    refine aB fun I a w hs=>?_
    refine nn ?_
    exact hs.ag (k+1) (⟨by omega,fD aT ah⟩)
  ·try simp only[B] at ae
   refine wp_exit<|aF<|aF<|aY ?_
   refine az fun I a w hs=>?_
   refine nn<|wp_ret ?_
   refine hs.rt ?_
   exact bM (eJ aT (by omega)).symm
theorem IP (s:Server) (d:ar):
 Fn Tryz.prog 213 [s.av,d.av] (AV.bool (gC s d)):=by
 refine Fn.intro 22 Tryz.func213 rfl Tryz.ntmps213 rfl (by kernel_rfl) (fun W I a hs=>?_)
 have lens:s.aR.length≤9223372036854775807∧s.aq.length≤9223372036854775807∧s.waits.length≤9223372036854775807∧s.aH.length≤9223372036854775807∧s.bq.length≤9223372036854775807:=by
  obtain⟨cs,_,hc⟩:=hs.env 0 _ rfl
  obtain⟨u0,_,h0,_⟩:=hc.get (i:=2) rfl
  obtain⟨u1,_,h1,_⟩:=hc.get (i:=3) rfl
  obtain⟨u2,_,h2,_⟩:=hc.get (i:=4) rfl
  obtain⟨u3,_,h3,_⟩:=hc.get (i:=5) rfl
  obtain⟨u4,_,h4,_⟩:=hc.get (i:=6) rfl
  exact⟨bL h0,bL h1,bL h2,bL h3,bL h4⟩
 refine aJ fun I a w hs=>?_
 refine nn<|wp_block ?_
 refine St.lo (σ:=Nat) (run 18 4 []) ⟨fun k=>[(5,AV.int k)],fun k=>[],fun k=>k≤s.waits.length∧∀i,i<k→(fun i=>!nQ d (ab s.waits i)) i=true⟩ (fun k=>s.waits.length-k) 0 hs ?aN ?aO
 case aN=>exact⟨Nat.zero_le _,fun i hi=>by omega⟩
 case aO=>
  rintro k I a w al hs
  obtain⟨pY,aT⟩:=al
  refine aW fun I a w hs=>?_
  refine nn ?_
  refine hs.cd (fun ae=>?_) fun ae=>?_
  ·try simp only[B] at ae
   refine wp_skip<|aG<|wp_seq<|wp_block<|wp_seq<|hs.dk ?_
   refine jS ?_
   refine .o (.cl (wX ..)) ?_
   refine bz ?_
   refine .nil ?_
   intro I a w hs
   refine aG ?_
   refine hs.cd (fun ah=>?_) fun ah=>?_
   ·try simp only[B] at ah
    refine az fun I a w hs=>?_
    refine nn<|wp_ret<|bh<|aE<|aE<|bh<|aE ?_
    refine hs.rt ?_
    exact bM (by unfold gC;rw[eP (f:=fun i=>!nQ d (ab s.waits i)) ae (by unfold nQ;simp;omega)];rfl)
   ·try simp only[B] at ah
    refine aB fun I a w hs=>?_
    refine nn ?_
    exact hs.ag (k+1) (⟨by omega,fD aT (by unfold nQ;simp;omega)⟩)
  ·try simp only[B] at ae
   refine wp_exit<|aF<|aF<|aY ?_
   refine az fun I a w hs=>?_
   refine nn<|wp_ret ?_
   refine hs.rt ?_
   exact bM (by unfold gC;rw[eJ aT (by omega)];rfl)
theorem CN (s:Server) (key:Int) (al:fV s=true):
 Fn Tryz.prog 207 [s.av,AV.int key] (AV.bool (eW s key)):=by
 refine Fn.intro 21 Tryz.func207 rfl Tryz.ntmps207 rfl (by kernel_rfl) (fun W I a hs=>?_)
 have hp:=wV al
 refine ai fun I a w hs=>?_
 refine nn<|wp_seq<|hs.dk ?_
 refine bz ?_
 refine .o (.c1 (q4 ..)) ?_
 refine cq ?_
 refine .q .T (.cl (qU ..)) ?_
 refine eK ?_
 refine .q .T (.cl (qW ..)) ?_
 refine .q .T ((by first|exact eZ ea dz .ag .ag (fun hg=>by have:=CI hg;omega)|exact iM ea dz .ag .ag (fun hg=>by have:=CI hg;omega)|exact iX ea dz .ag .ag (fun hg=>by have:=CI hg;omega))) ?_
 refine eK ?_
 refine .nil ?_
 intro I a w hs
 refine aG<|wp_ret ?_
 refine hs.rt ?_
 exact bM (by rw[al];rfl)
theorem uw (n:Int) (hn:cJ n=true):
 Fn Tryz.prog 184 [AV.int n] (AV.int (eG n)):=by
 refine Fn.intro 10 Tryz.func184 rfl Tryz.ntmps184 rfl (by kernel_rfl) (fun W I a hs=>?_)
 have xy:0≤n∧n≤3:=by simpa[cJ,aQ] using hn
 refine ai fun I a w hs=>?_
 refine hs.o (pI .tt .c (fun _=>by omega)) fun hs=>?_
 refine hs.o .si fun hs=>nn ?_
 refine hs.cd (fun ae=>?_) fun ae=>?_
 ·skip
  refine aB fun I a w hs=>?_
  refine nn<|wp_ret<|aE ?_
  refine hs.rt ?_
  exact fk (by unfold eG;rw[if_pos (by simpa using ae)])
 ·skip
  refine aB fun I a w hs=>?_
  refine nn<|wp_ret ?_
  refine hs.rt ?_
  exact fk (by unfold eG;rw[if_neg (by simpa using ae)])
set_option maxHeartbeats 4000000 in
theorem QT (s:Server) (key aC call:Int):
 Fn Tryz.prog 208 [s.av,AV.int key,AV.int aC,AV.int call] (AV.c9 [((jF s key aC call).getD default).av,AV.bool (jF s key aC call).isSome]):=by
 refine Fn.intro 52 Tryz.func208 rfl Tryz.ntmps208 rfl (by kernel_rfl) (fun W I a hs=>?_)
 have lens:s.aR.length≤9223372036854775807∧s.aq.length≤9223372036854775807∧s.waits.length≤9223372036854775807∧s.aH.length≤9223372036854775807∧s.bq.length≤9223372036854775807:=by
  obtain⟨cs,_,hc⟩:=hs.env 0 _ rfl
  obtain⟨u0,_,h0,_⟩:=hc.get (i:=2) rfl
  obtain⟨u1,_,h1,_⟩:=hc.get (i:=3) rfl
  obtain⟨u2,_,h2,_⟩:=hc.get (i:=4) rfl
  obtain⟨u3,_,h3,_⟩:=hc.get (i:=5) rfl
  obtain⟨u4,_,h4,_⟩:=hc.get (i:=6) rfl
  exact⟨bL h0,bL h1,bL h2,bL h3,bL h4⟩
 refine az fun I a w hs=>?_
 refine hs.alloc rfl bt dO fun b8 I a w hs=>?_
 refine ai fun I a w hs=>?_
 refine nn<|wp_block ?_
 refine St.lo (σ:=Nat) (run 42 9 []) ⟨fun k=>[(10,AV.int k)],fun k=>[Own.box b8 100 [AV.val (.int .i64 0),AV.val (.int .i64 0),AV.val (.int .i64 0),AV.val (.int .i64 0),AV.val (.int .i64 0),AV.val (.int .i64 0),AV.rows 3 []]],fun k=>k≤s.aq.length∧∀i,i<k→(nR s key aC call) (ab s.aq i)=false⟩ (fun k=>s.aq.length-k) 0 hs ?aN ?aO
 case aN=>exact⟨Nat.zero_le _,fun i hi=>by omega⟩
 case aO=>
  rintro k I a w al hs
  obtain⟨hk,aT⟩:=al
  refine aW fun I a w hs=>?_
  refine nn ?_
  refine hs.cd (fun ae=>?_) fun ae=>?_
  ·try simp only[B] at ae
   refine aW fun I a w hs=>?_
   refine hs.alloc rfl bt dO fun kd I a w hs=>?_
   refine hs.sb 1 fun hs=>?_
   obtain⟨I,hs⟩:=hs.fb 1 11
   refine nn<|wp_seq<|hs.dk ?_
   refine lY ?_
   refine de ?_
   refine .q .T (.cl (nC ..)) ?_
   refine cq ?_
   refine .q .T (.cl (nC ..)) ?_
   refine cq ?_
   refine .nil ?_
   intro I a w hs
   refine aG ?_
   refine hs.cd (fun ah=>?_) fun ah=>?_
   ·change(nR s key aC call) (ab s.aq k)=true at ah
    refine aB fun I a w hs=>?_
    refine nn<|wp_ret<|bh<|aE<|aE<|bh<|aE ?_
    refine hs.ret rfl (.cons (.s 0 bt rfl rfl (by first|rfl|assumption)) (.cons (.t rfl) aU.nil)) ?_
    exact(by rw[show jF s key aC call=some (ab s.aq k) from II ae aT ah];rfl)
   ·change(nR s key aC call) (ab s.aq k)=false at ah
    refine aB fun I a w hs=>?_
    refine nn ?_
    have hs:=hs.drop 1
    exact hs.ag (k+1) (⟨ae,fun i h1=>by rcases Nat.lt_succ_iff_lt_or_eq.1 h1 with h|h;exact aT i h;rw[h];exact ah⟩)
  ·try simp only[B] at ae
   refine wp_exit<|aF<|aF<|aY<|aG<|sr ?_
   refine hs.o (.bd dO aZ.nil) fun hs=>?_
   refine ai fun I a w hs=>?_
   refine nn<|wp_ret ?_
   refine hs.ret rfl (.cons (.s 0 bt rfl rfl (by first|rfl|assumption)) (.cons (.t rfl) aU.nil)) ?_
   exact(by rw[show jF s key aC call=none from IJ (by omega) aT];rfl)
end Go.Proofs.YtoeioeimmfpefaaGreat
