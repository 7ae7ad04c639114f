/- Part 26: contracts of functions, plain facts. -/
import Derived.Test.YtldbakcpcfdlaaaGreatP20
import Derived.Test.YtldbakcpcfdlaaaGreatP22
import Derived.Test.YtldbakcpcfdlaaaGreatP29
set_option linter.all false
set_option maxRecDepth 100000
set_option maxHeartbeats 4000000
namespace Go.Proofs.YtldbakcpcfdlaaaGreat
open Go Go.RowKit Tryz
attribute [local irreducible] wpList Code.wp Ok
def aiw {q:Call} {t:Int} (h:dJ q t):∀m∈asks q,(m.kind=1\/m.kind=3)/\du m.key=true/\mq m.ar=true/\(0<=m.val/\m.val<=9999)/\bT m.aQ=true/\m.slot=0/\m.bw=0/\m.an=[]/\m.waits=[]/\m.aE=[]:=by
 have hk:jZ q.keys=true:=by have:=h.keys;simp only[fU,Bool.and_eq_true] at this;exact this.1
 unfold asks;split
 .intro m hm;obtain rfl:m=_:=by simpa using hm
  have h1:q.keys.length=1:=by
   have:=h.keys;rename_i e;simp[fU,e] at this;omega
  exact⟨.inl rfl,AW hk (bh om),C4,h.val,h.ctx,rfl,rfl,rfl,rfl,rfl⟩
 intro m hm;rcases List.mem_append.1 hm with hm|hm
 .obtain⟨k,hkm,rfl⟩:=List.mem_map.1 hm;exact⟨.inr rfl,AW hk (su hkm),C4,⟨by simp[cn],by simp[cn]⟩,ud,rfl,rfl,rfl,rfl,rfl⟩
 obtain⟨d,hd,rfl⟩:=List.mem_map.1 hm;have:=qN h.aL hd;simp only[l9,Bool.and_eq_true] at this;exact⟨.inr rfl,this.1,C3 this.2,⟨by simp[cn],by simp[cn]⟩,ud,rfl,rfl,rfl,rfl,rfl⟩
def MZ {q:Call} {t:Int} (h:dJ q t):∀m∈gD q,bK m=true:=by
 unfold gD;split
 .intro m hm;obtain⟨ws,h1,h2⟩:=List.mem_flatten.1 hm;obtain⟨x,hx,rfl⟩:=List.mem_map.1 h1;obtain⟨a1,a2,a3,a4,a5,a6,a7,a8,a9,yw⟩:=aiw h x hx;have hc:=qS.1 h.aj;have key:∀n:Int,cM n=true->bK {x with aT:=10+q.aj,to:=n,call:=q.num}=true:=λn hn=>
   vC (by show 1<=x.kind/\x.kind<=10;omega) (ad7 h.aj) (qK hn) ⟨by have:=h.num;show 0<=q.num;omega,h.num.2⟩ a2 a3 a4 a5 (by show 0<=x.slot/\x.slot<=2;omega) (by show 0<=x.bw/\x.bw<=9999;omega)
    (by show ct x.an=true;rw[a8];rfl) (by show ct x.waits=true;rw[a9];rfl) (by show gz x.aE=true;rw[yw];rfl)
  unfold jq at h2;rcases List.mem_cons.1 h2 with rfl|h2
  .exact key _ (jy.2 om)
  obtain rfl:m=_:=by simpa using h2
  exact key _ (jy.2 om)
 intro m hm;simp at hm
def aiy (s:Server) (m:az) (ao:iB s=true):
 Fn prog 310 [s.av,m.av] (dM (gR s m)):=by
 refine Fn.go 68 func310 ntmps310 (λW I a U=>?_);have hp:=CM ao;refine bY λI a w U=>?_;refine U.o (.c1 (C1 ..)) λU=>?_;refine wL λI a w U=>?_;refine U.q .F (.cl (Mc _ _ ao)) λU=>?_;refine aF λI a w U=>?_;refine U.cd (λae=>?_) λae=>?_
 .rw[GZ s m] at ae;replace ae:=nt ae;refine zt ?_;refine U.l0 λb24 I a w U=>?_;refine aB λI a w U=>?_;obtain⟨I,U⟩:=U.fr 0 4;refine U.rt ?_;exact(by unfold gR;rw[ae];rfl)
 rw[GZ s m] at ae;replace ae:=nf ae;refine bx λI a w U=>?_;refine U.o (.cl (TC _ _ hp.2.1)) λU=>?_;refine bk λI a w U=>?_;refine U.alloc rfl bL ee λb5 I a w U=>?_;refine bx λI a w U=>?_;refine U.o (.bd kv aZ.nil) λU=>?_;refine U.o (tz [_,_] [_,_] nz rfl rfl .tt .tt) λU=>?_;refine zt ?_;refine U.cd (λah=>?_) λah=>?_
 .rw[Gk m.ar] at ah;replace ah:=nt ah;refine dZ λI a w U=>?_;refine U.o (.cl (vr ..)) λU=>?_;refine jW λI a w U=>?_;refine U.cd (λaq=>?_) λaq=>?_
  .refine zt ?_;refine U.l0 λb49 I a w U=>?_;refine aB λI a w U=>?_;obtain⟨I,U⟩:=U.fr 1 4;refine U.rt ?_;exact(by unfold gR;rw[ae,if_pos rfl,ah,if_neg bn];rw[C5 hp.2.1] at aq;rw[Dv aq];rfl)
  refine Cx λI a w U=>?_;refine U.o (.bd eU (.k (.k (.k (.k (.k (.t (.k aZ.nil)))))))) λU=>?_;refine U.alloc rfl dV eU λb7 I a w U=>?_;refine aF λI a w U=>?_;refine U.cd (λaK=>?_) λaK=>?_
  .refine bD λI a w U=>?_;refine U.o (.li [_] mB (.u .nil)) λU=>?_;refine bk λI a w U=>?_;refine U.o (.li [_] iN (.u .nil)) λU=>?_;refine bf ?_;exact(by unfold gR;rw[ae,if_pos rfl,ah,if_neg bn];rw[C5 hp.2.1] at aK⊢;obtain⟨v,hv⟩:=Option.isSome_iff_exists.1 aK;rw[hv];rfl)
  refine bD λI a w U=>?_;refine U.o (.li [_] iN (.u .nil)) λU=>?_;refine bf ?_;exact(by simp only[B] at aq;rw[aq] at aK;cases aK)
 rw[Gk m.ar] at ah;replace ah:=nf ah;refine Cx λI a w U=>?_;refine U.o (.bd eU (.k (.k (.k (.k (.k (.t (.k aZ.nil)))))))) λU=>?_;refine U.alloc rfl dV eU λb7 I a w U=>?_;refine aF λI a w U=>?_;refine U.cd (λaS=>?_) λaS=>?_
 .refine bD λI a w U=>?_;refine U.o (.li [_] mB (.u .nil)) λU=>?_;refine bk λI a w U=>?_;refine U.o (.li [_] iN (.u .nil)) λU=>?_;refine bf ?_;exact(by unfold gR;rw[ae,if_pos rfl,ah,if_pos rfl];obtain⟨v,hv⟩:=Option.isSome_iff_exists.1 aS;unfold lS;rw[hv];rfl)
 refine bD λI a w U=>?_;refine U.o (.li [_] iN (.u .nil)) λU=>?_;refine bf ?_;exact(by unfold gR;rw[ae,if_pos rfl,ah,if_pos rfl];unfold lS;rw[show dY s.an m.key=none from Dv (by rw[aS];rfl)];rfl)
def aiz (s:Server) (m:az) (hg:bJ s) (hm:bK m=true) (hf:((m.aT==fA s.site)&&decide (1<=m.bw))=true):
 Fn prog 351 [s.av,m.av] (AV.dG [(gq s m).1.av,dM (gq s m).2]):=by
 refine Fn.go 106 func351 ntmps351 (λW I a U=>?_);have ao:=jX.2 hg;have dq:=hg.ok;have ja:=hg.small;have lP:=nH hm;have ka:=qJ hm;have lens:m.aQ.length<=9223372036854775807/\m.an.length<=9223372036854775807/\m.waits.length<=9223372036854775807/\m.aE.length<=9223372036854775807:=⟨U.ln 1 9,U.ln 1 12,U.ln 1 13,U.ln 1 14⟩;have h3:=hg.aD;have py:=dq.drop m.slot;have hdo:=iP (hg.eh m.slot).aE;have QB:=iP lP.2.2.1;have hdv:=ga py.an;have xE:=ga py.waits;have e9:∀x,x=de.cells ⟨m.bw,1⟩->(List.map de.cells s.aD).set m.slot.toNat x=List.map de.cells ((eh s m.slot).aD.set m.slot.toNat ⟨m.bw,1⟩):=λx h=>by rw[h];exact List.map_set.symm
 refine aG λI a w U=>?_;refine U.alloc rfl cA dS λb4 I a w U=>?_;refine g9 λI a w U=>?_;refine U.o (.bd eU (.k (.k (.k aZ.nil)))) λU=>?_;refine U.o (.c3 (vI s m ⟨10,0,0,0,0,⟨0,0⟩,0,false,[],m.slot,m.bw,[],[],[]⟩ (yU ..))) λU=>?_;refine aF λI a w U=>?_;refine cz (λae=>?_) λae=>?_
 .refine aX λI a w U=>?_;refine U.ret rfl (.cons (.sx 0) (.cons .x aV.nil)) ?_;exact(by rw[Uj hf om];rfl)
 refine bk λI a w U=>?_;refine U.cY [] (UE s m.slot ja) (ax .tt (ax .tt aH)) rfl aP rfl λvS I a w DU U=>?_;refine U.alloc rfl cA dS λb7 I a w U=>?_;refine wM λI a w U=>?_;refine U.o (.cl (Vn (eh s m.slot).an m.an py.an lP.1)) λU=>?_;refine wJ λI a w U=>?_;refine U.o (.cl (Vn (eh s m.slot).waits m.waits py.waits lP.2.1)) λU=>?_;refine oE λI a w U=>?_;refine St.lo (σ:=Nat) (14::(run 10 65 [])) ⟨λk=>[(65,AV.int k)],λk=>[Own.box b4 95 [AV.val (.int .i64 0),AV.val (.bool false),AV.rows 2 [],AV.rows 7 [],AV.rows 7 [],AV.rows 3 [],AV.rows 3 []],Own.row vS 97 2 (s.aD.map de.cells),Own.box b7 95 [AV.int s.site,AV.bool s.up,AV.val vS,bU (eh s m.slot).an,bU (eh s m.slot).waits,bE ((m.aE.take k).foldl eA (eh s m.slot).aE),bE s.ba]],λk=>k<=m.aE.length⟩ (λk=>m.aE.length-k) 0 U ?aI ?bF;case aI=>exact Nat.zero_le _
 rintro k I a w ao U;have hk:k<=m.aE.length:=ao;dsimp only at U;refine aB λI a w U=>?_;refine cz (λah=>?_) λah=>?_
 .refine aG λI a w U=>?_;refine U.alloc rfl cW gX λux I a w U=>?_;refine aB λI a w U=>?_;obtain⟨I,U⟩:=U.fb 3 14;refine bk λI a w U=>?_;refine U.o (bO (Md ((m.aE.take k).foldl eA (eh s m.slot).aE) (ab m.aE k) (by have:=UD (eh s m.slot).aE m.aE k;omega)) (ax .r (ax (.t rfl) aH))) λU=>?_;refine aX λI a w U=>?_;have U:=U.drop 3;rw[<-TK ah] at U;exact U.ag (k+1) (ah)
 refine zt ?_;refine iM λI a w U=>?_;obtain⟨bS,cS,rfl⟩:=U.ku 1 rfl lf;refine dZ λI a w U=>?_;refine U.o (.bd oF (.k (.k aZ.nil))) λU=>?_;refine U.o (jF gQ fh .tt .tt (λ_=>by simp only[List.length_map];omega)) λU=>?_;refine U.mn 1 fh .tt .tt rfl (by exact gB om) rfl rfl λa w U=>?_;refine zt ?_;rw[e9] at U;rotate_left
 .rfl
 obtain⟨I,U⟩:=U.fu 1 2 2;rw[show m.aE.take k=m.aE from List.take_of_length_le om] at U;refine Fp λI a w U=>?_;refine U.q .F (.cl (zl (jB s m))) λU=>?_;refine aF λI a w U=>?_;refine U.cd (λaq=>?_) λaq=>?_
 .rw[US] at aq;replace aq:=nt aq;refine aR λI a w U=>?_;refine U.ret rfl (.cons (.sx 0) (.cons (.nil (sz:=15) rfl) aV.nil)) ?_;exact(by rw[LK hf om aq];rfl)
 rw[US] at aq;replace aq:=nf aq;refine bD λI a w U=>?_;refine U.o (bO (Bi (jB s m) (jX.1 (by simp only[Bool.and_eq_true] at aq;exact aq.2)).ok (iP (jX.1 (by simp only[Bool.and_eq_true] at aq;exact aq.2)).aE)) (ax (.t rfl) aH)) λU=>?_;refine aR λI a w U=>?_;refine U.ret rfl (.cons (.sx 0) (.cons .x aV.nil)) ?_;exact(by rw[Uk hf om aq];rfl)
def Wf {q:Call} {t:Int} (h:dJ q t) (ht:0<=t):(!gf q q.bH||!bV q)=!bV q:=by
 cases hw:bV q
 .simp
 have he:=(oZ hw).1;have:=Ms (uy.2 h);rw[he,Int.add_zero] at this;rw[this];rfl
def Wg (q:Call) (m:az) (t:Int):(!bV q||decide (t<=q.bH)||!bK m||(m.to !=10+q.aj)||(m.call !=q.num)||!iE q.keys m.key)=
 !(bK m&&(m.to==10+q.aj)&&(m.call==q.num)&&iE q.keys m.key&&bV q&&decide (q.bH<t)):=by
 have e2:decide (t<=q.bH)=!decide (q.bH<t):=by rw[Bool.eq_iff_iff];simp
 rw[e2,Bool.eq_iff_iff];cases bV q<;>cases bK m<;>cases decide (q.bH<t)<;>cases iE q.keys m.key<;>simp[bne]
def ix (x:ai) (e:Ev):ai×Bool:=
 if e.kind=1\/e.kind=2\/e.kind=3 then g7 x e
 else if e.kind=4\/e.kind=5 then iG x e
 else if aJ e.kind 6 9&&cM e.at_ then fG x e
 else(x,false)
def aiC {x:ai} {e:Ev} (h:e.kind=1):ix x e=kb x e:=by unfold ix g7;rw[if_pos (.inl h),if_pos h]
def aiD {x:ai} {e:Ev} (h:e.kind=2\/e.kind=3) (hi:cq x.calls e.aj<0):ix x e=(x,false):=by unfold ix g7;rw[if_pos (.inr h),if_neg om];dsimp only;rw[if_pos hi]
def aiE {x:ai} {e:Ev} (h:e.kind=2) (hi:¬cq x.calls e.aj<0):ix x e=({x with al:=eN x.al (gD (ab x.calls (cq x.calls e.aj).toNat))},true):=by
 unfold ix g7;rw[if_pos (.inr (.inl h)),if_neg om];dsimp only;rw[if_neg hi,if_neg om]
def aiF {x:ai} {e:Ev} (h:e.kind=3) (hi:¬cq x.calls e.aj<0):ix x e=({x with calls:=x.calls.set (cq x.calls e.aj).toNat {ab x.calls (cq x.calls e.aj).toNat with over:=true}},true):=by
 unfold ix g7;rw[if_pos (.inr (.inr h)),if_neg om];dsimp only;rw[if_neg hi,if_pos h]
def M0 {x:ai} {e:Ev} (h:e.kind=4\/e.kind=5):ix x e=iG x e:=by unfold ix;rw[if_neg om,if_pos h]
def aiG {x:ai} {e:Ev} (h1:¬e.kind=1) (h2:¬(e.kind=2\/e.kind=3)) (h4:¬e.kind=4) (h5:¬e.kind=5) (h:(aJ e.kind 6 9&&cM e.at_)=false):ix x e=(x,false):=by
 unfold ix;rw[if_neg om,if_neg om,h];rfl
def Bp {x:ai} {e:Ev} (h:(aJ e.kind 6 9&&cM e.at_)=true):ix x e=fG x e:=by
 have h2:=h;simp only[aJ,Bool.and_eq_true,decide_eq_true_eq] at h2;unfold ix;rw[if_neg om,if_neg om,if_pos h]
def DV (x:ai) (h:A9 x):
 Fn prog 24 [x.av,x.av] (AV.bool true):=by
 refine Fn.go 105 func24 ntmps24 (λW I a U=>?_);obtain⟨⟨h1,h2⟩,⟨h3,h4⟩,⟨h5,h6⟩,h7,h8⟩:=h;refine JL λI a w U=>?_;refine mz λI a w U=>?_;refine U.q .F (.cl (afb ..)) λU=>?_;refine aF λI a w U=>?_;refine U.cd (λae=>?_) λae=>?_
 .exfalso;simp at ae;skip
 refine aB λI a w U=>?_;refine St.lo (σ:=Nat) (run 2 4 (run 19 48 [])) ⟨λk=>[(5,AV.int k)],λk=>[],λk=>k<=x.aC.length⟩ (λk=>x.aC.length-k) 0 U ?aI ?bF;case aI=>exact Nat.zero_le _
 rintro k I a w ao U;have hk:k<=x.aC.length:=ao;refine cF λI a w U=>?_;refine cz (λah=>?_) λah=>?_
 .refine zt ?_;refine U.dk ?_;refine pK ?_;refine .o (.c2 (afc (ab x.aC k) (h2 _ (bh ah)).1)) ?_;refine bG ?_;refine .nil ?_;intro I a w U;refine bm ?_;refine U.cd (λaq=>?_) λaq=>?_
  .exfalso;simp at aq;skip
  refine aR λI a w U=>?_;exact U.ag (k+1) (ah)
 refine zt ?_;refine aB λI a w U=>?_;refine St.lo (σ:=Nat) (4::(6::(run 19 67 []))) ⟨λk=>[(6,AV.int k)],λk=>[],λk=>k<=x.calls.length⟩ (λk=>x.calls.length-k) 0 U ?eo ?jK;case eo=>exact Nat.zero_le _
 rintro k I a w ao U;have hk:k<=x.calls.length:=ao;refine cF λI a w U=>?_;refine cz (λaK=>?_) λaK=>?_
 .refine zt ?_;refine U.dk ?_;refine pK ?_;refine .o (.c2 (afU (ab x.calls k) (h6 _ (bh aK)).1)) ?_;refine bG ?_;refine .nil ?_;intro I a w U;refine bm ?_;refine U.cd (λaS=>?_) λaS=>?_
  .exfalso;simp at aS;skip
  refine aR λI a w U=>?_;exact U.ag (k+1) (aK)
 refine zt ?_;refine aB λI a w U=>?_;refine St.lo (σ:=Nat) (4::(7::(run 19 86 []))) ⟨λk=>[(7,AV.int k)],λk=>[],λk=>k<=x.seen.length⟩ (λk=>x.seen.length-k) 0 U ?iD ?od;case iD=>exact Nat.zero_le _
 rintro k I a w ao U;have hk:k<=x.seen.length:=ao;refine cF λI a w U=>?_;refine cz (λbA=>?_) λbA=>?_
 .refine zt ?_;refine U.dk ?_;refine pK ?_;refine .o (.cl (w7 (ab x.seen k))) ?_;refine bG ?_;refine .nil ?_;intro I a w U;refine bm ?_;refine U.cd (λbt=>?_) λbt=>?_
  .exfalso;simp at bt;skip
  refine aR λI a w U=>?_;exact U.ag (k+1) (bA)
 refine zt ?_;refine bf ?_;rfl
def M1 {w:ai} (h:bX w) {i j:Nat} (j5:i<j) (hj:j<w.calls.length) (hc:(ab w.calls i).aj=(ab w.calls j).aj):(ab w.calls i).num<(ab w.calls j).num:=by
 have hh:=(pb.1 h.calls).2;have h1:=(hh i om).2.2.1;have h2:=(hh j hj).2.2.1;rw[h1,h2,pR hj,hc];simp only[beq_self_eq_true,if_true];have:=adQ w.calls (a:=i+1) (b:=j) om (ab w.calls j).aj;omega
def DW {w:ai} (h:bX w) {q p:Call} (hq:q∈w.calls) (hp:p∈w.calls) (hc:q.aj=p.aj) (hn:q.num=p.num):q=p:=by
 obtain⟨i,hi,rfl⟩:=fS hq;obtain⟨j,hj,rfl⟩:=fS hp;rcases Nat.lt_trichotomy i j with bz|he|bz
 .have:=M1 h bz hj hc;omega
 .rw[he]
 have:=M1 h bz hi hc.symm;omega
def aiH {s:Server} {key aj call:Int} (h:kU s key aj call=none) {v:aA} (hv:v∈s.an):pS s key aj call v=false:=by
 unfold kU at h;rw[List.find?_eq_none] at h;simpa using h v hv
def pe {w:ai} (h:bX w) {q:Call} (hq:q∈w.calls):q.aj.toNat<2/\((q.aj.toNat:Nat):Int)=q.aj:=by
 obtain⟨i,hi,rfl⟩:=fS hq;have:=qS.1 (h.call hi).aj;omega
def cD (w0:ai) (e:Ev):ai×Bool:=
 let w:={w0 with time:=w0.time+1}
 if e.kind=1\/e.kind=2\/e.kind=3 then g7 w e
 else if e.kind=4\/e.kind=5 then iG w e
 else if aJ e.kind 6 9&&cM e.at_ then fG w e
 else(w,false)
def gv (w:ai) (e:Ev):ai×Bool:=if w.time<99999/\(cD w e).2=true then((cD w e).1,true) else(w,false)
def bW (w:ai) (e:Ev):ai×Bool:=if cK w then gv w e else(Lb,false)
def cx (l:List Ev):ai:=if 2000<l.length then dT else l.foldl (λw e=>(bW w e).1) dT
def Hc (q:Call) (m:az) (t:Int):(cQ q m t).aj=q.aj/\(cQ q m t).num=q.num/\(cQ q m t).bH=q.bH/\(cQ q m t).over=q.over/\(cQ q m t).ctx=q.ctx/\(cQ q m t).keys=q.keys/\(cQ q m t).kind=q.kind:=by
 have e:∀q':Call,∀t,(kV q' t).aj=q'.aj/\(kV q' t).num=q'.num/\(kV q' t).bH=q'.bH/\(kV q' t).over=q'.over/\(kV q' t).ctx=q'.ctx/\(kV q' t).keys=q'.keys/\(kV q' t).kind=q'.kind:=λq' t=>by
  unfold kV;split<;>exact⟨rfl,rfl,rfl,rfl,rfl,rfl,rfl⟩
 unfold cQ iw mb lu;dsimp only;repeat' split
 all_goals first|exact⟨rfl,rfl,rfl,rfl,rfl,rfl,rfl⟩|exact e _ _
def ahG {q:Call} {t:Int} (h:dJ q t):bT (gJ q)=true:=by
 unfold gJ;split
 .exact h.ctx
 rename_i he;split
 .rename_i hk;refine Bd h.ctx ?_;have U:dB q.ar=true:=by
   have h1:=(h.ended he).2.2.2.1 hk;have h2:=h.fits;unfold mq at h2;rw[h1,Bool.false_or] at h2;exact h2
  have hu:jZ q.keys=true:=by have:=h.keys;simp only[fU,Bool.and_eq_true] at this;exact this.1
  have h1:q.keys.length=1:=by
   have:=h.keys;simp[fU,hk] at this;omega
  unfold l9;rw[Bool.and_eq_true];exact⟨AW hu (bh om),U⟩
 exact(Bk h.ctx h.aN).1
def ahH {l:List Call} {t t':Int} (h:jr l t=true) (ht:t<=t'):jr l t'=true:=by
 obtain⟨h1,h2⟩:=pb.1 h;exact pb.2 ⟨h1,λi hi=>⟨(h2 i hi).1.later ht,(h2 i hi).2⟩⟩
def ahI {l:List Call} {t:Int} (h:jr l t=true) {i:Nat} (hi:i<l.length) (hw:bV (ab l i)=true) {x:Call} (hx:dJ x t) (h1:x.aj=(ab l i).aj) (h2:x.num=(ab l i).num) (h3:x.bH=(ab l i).bH):jr (l.set i x) t=true:=by
 obtain⟨he,ho⟩:=oZ hw;obtain⟨a,b⟩:=pb.1 h;have hb:∀j,(ab (l.set i x) j).bH=(ab l j).bH:=λj=>by rw[fC hi];split;subst_vars;exact h3;rfl
 have bq:∀j,(ab (l.set i x) j).aj=(ab l j).aj:=λj=>by rw[fC hi];split;subst_vars;exact h1;rfl
 have DQ:∀j,(ab (l.set i x) j).num=(ab l j).num:=λj=>by rw[fC hi];split;subst_vars;exact h2;rfl
 refine pb.2 ⟨by rw[List.length_set];exact a,λj hj=>?_⟩;rw[List.length_set] at hj;obtain⟨b1,b2,b3,b4⟩:=b j hj;refine⟨?_,by rw[hb,hb];exact b2,by rw[DQ,bq,adE hi h1];exact b3,λk hk=>?_⟩
 .rw[fC hi];split
  .exact hx
  exact b1
 have hc:=b4 k hk;unfold mH at hc⊢;rw[bq,bq,hb];by_cases e:k=i
 .subst e;rw[he,ho] at hc;have:((ab l k).aj==(ab l j).aj)=false:=by simpa using hc
  rw[this];rfl
 rw[fC hi,if_neg e];exact hc
def bX.later {w:ai} (h:bX w):bX {w with time:=w.time+1}:=
 ⟨by have:=h.time;show 0<=w.time+1;omega,h.aC,h.site,h.al,h.words,h.seen,h.kG,ahH h.calls (by show w.time<=w.time+1;omega)⟩
def bX.VY {w:ai} (h:bX w) {i:Nat} (hi:i<w.calls.length) (hw:bV (ab w.calls i)=true) {x:Call} (hx:dJ x w.time) (h1:x.aj=(ab w.calls i).aj) (h2:x.num=(ab w.calls i).num) (h3:x.bH=(ab w.calls i).bH):bX {w with calls:=w.calls.set i x}:=
 ⟨h.time,h.aC,h.site,h.al,h.words,h.seen,h.kG,ahI h.calls hi hw hx h1 h2 h3⟩
def Bn (w:ai) (e:Ev):(cD w e).1.time=w.time+1:=by
 unfold cD g7 kb iG jC fG;dsimp only;repeat' split
 all_goals rfl
def MQ {s:Server} {m:az} (h:bJ s) (hm:bK m=true) (ho:fE s m.key=true) (hk:(jM (fB s m)&&iO s.an (eV s m)&&decide (s.aE.length<80))=true):bJ {s with an:=fJ s.an (eV s m),aE:=eA s.aE (eV s m).aU}:=by
 simp only[Bool.and_eq_true,decide_eq_true_eq] at hk;obtain⟨a1,a2,a3⟩:=DP h hm hk.1.1;exact h.put hk.1.2 (by rw[a1]) (by show cP s m.key≠0;rw[(yK ho).2];omega) hk.2
def ahJ (s:Server) (hg:bJ s):
 Fn prog 278 [s.av] (dM (ic s)):=by
 refine Fn.go 155 func278 ntmps278 (λW I a U=>?_);have ao:=jX.2 hg;have dq:=hg.ok;have lens:s.aD.length<=9223372036854775807/\s.an.length<=9223372036854775807/\s.waits.length<=9223372036854775807/\s.aE.length<=9223372036854775807/\s.ba.length<=9223372036854775807:=⟨U.ln 0 2,U.ln 0 3,U.ln 0 4,U.ln 0 5,U.ln 0 6⟩;have h3:=hg.aD;have CN:=ga hg.an;have lP:=ga hg.waits;have lF:=iP hg.aE;have sY:∀v∈s.waits,v.aQ.length<=6:=λv hv=>iV (iW (fw hg.waits v hv)).2.2;have hsd:=ue hg.site;refine aF λI a w U=>?_;refine U.l0 λux I a w U=>?_;refine aG λI a w U=>?_;refine U.o (.c1 (xq ..)) λU=>?_;refine iM λI a w U=>?_;refine U.cd (λae=>?_) λae=>?_
 .rw[F9] at ae;replace ae:=nt ae;refine aF λI a w U=>?_;obtain⟨I,U⟩:=U.fr 0 2;refine U.rt ?_;exact(by rw[ao,Bool.true_and] at ae;rw[VP ae];rfl)
 rw[F9] at ae;replace ae:=nf ae;rw[Bool.and_eq_true] at ae;refine aB λI a w U=>?_;refine St.lo (σ:=Nat×Value) (run 2 3 (run 20 24 [])) ⟨λ⟨n,v⟩=>[(4,AV.int n),(3,AV.val v)],λ⟨n,v⟩=>[Own.row v 108 15 ((pW s n).map az.cells)],λ⟨n,v⟩=>n<=s.aD.length⟩ (λ⟨n,v⟩=>s.aD.length-n) (0,.slice (some ⟨ux,0,none⟩) 0 0) U ?aI ?bF;case aI=>exact Nat.zero_le _
 rintro⟨n,v⟩ I a w ao U;have hn:n<=s.aD.length:=ao;dsimp only at U;refine cF λI a w U=>?_;refine cz (λah=>?_) λah=>?_
 .refine jW λI a w U=>?_;refine cz (λaq=>?_) λaq=>?_
  .refine bk λI a w U=>?_;refine U.o (bO (VA s (n:Int) dq.an dq.waits hg.site h3 om lF) (ax (.t rfl) (ax (.t rfl) aH))) λU=>?_;refine U.o (.li [(gS s (n:Int)).cells] iN (.u .nil)) λU=>?_;refine U.append 0 rfl gA dV rfl .tt .r rfl (by have:=LU s n;simp;omega) λGX a w U=>?_;rw[cJ,UG (by simpa using aq)] at U;refine aX λI a w U=>?_;exact U.ag (n+1,GX) (ah)
  refine aR λI a w U=>?_;rw[UH (by simpa using aq)] at U;exact U.ag (n+1,v) (ah)
 refine zt ?_;refine aG λI a w U=>?_;refine U.o (.c1 (sI ..)) λU=>?_;refine U.o (mi .c .tt (λ_=>by omega)) λU=>?_;refine aF λI a w U=>?_;rw[VQ om] at U;refine aB λI a w U=>?_;refine St.lo (σ:=Nat×Value) (3::(run 4 6 (run 49 49 []))) ⟨λ⟨k,v⟩=>[(6,AV.int k),(3,AV.val v)],λ⟨k,v⟩=>[Own.row v 108 15 ((jO s k).map az.cells)],λ⟨k,v⟩=>k<=s.aE.length⟩ (λ⟨k,v⟩=>s.aE.length-k) (0,v) U ?eo ?jK;case eo=>exact Nat.zero_le _
 rintro⟨k,v⟩ I a w ao U;have hk:k<=s.aE.length:=ao;dsimp only at U;refine cF λI a w U=>?_;refine cz (λaK=>?_) λaK=>?_
 .refine zt ?_;have U:=U.jj;refine U.gG [([],none),([],none),([],none),([],none),([],none),([],none),([],none),([],none),([],none),([],none),([],none),([],none),([],none),([],none),([],none),([],none),([],none),([],none),([1],some (1,[7])),([1],some (1,[7])),([],none)] aO aO rfl ?_;refine tP ?_;refine .o (.cl (vr ..)) ?_;refine dO ?_;refine bc.alloc 1 rfl rfl bL ee<|bc.qu 1 rfl bL rfl .tt rfl rfl ?_;refine bG ?_;refine .nil ?_;intro I a w U;obtain⟨b7,U⟩:=U.oC (d:=7) 1 rfl rfl;obtain⟨I,U⟩:=U.fb 1 7;obtain⟨vd,uv,zn,jD⟩:=SJ hg (bh aK);have hva:lq s.an ⟨(ab s.aE k).key,(ab s.aE k).ar⟩=some vd:=by rw[C5 hg.an];exact uv
  rw[show(lq s.an ⟨(ab s.aE k).key,(ab s.aE k).ar⟩).getD default=vd from by rw[hva];rfl] at U;refine bm<|wp_seq<|wp_seq<|U.dk ?_;refine eb ?_;refine .o (.c1 (wT ..)) ?_;refine .o ((by first|exact ff gQ fh .tt .tt (λ_=>by have:=sj (si (fw hg.an vd jD));omega)|exact iT gQ fh .tt .tt (λ_=>by have:=sj (si (fw hg.an vd jD));omega)|exact je gQ fh .tt .tt (λ_=>by have:=sj (si (fw hg.an vd jD));omega))) ?_;refine dO ?_;refine .nil ?_;intro I a w U;refine bm ?_;refine cz (λaS=>?_) λaS=>?_
  .refine zt ?_;refine aR λI a w U=>?_;have U:=U.drop 1;rw[ahg aK zn (by simpa using aS)] at U;exact U.ag (k+1,v) (aK)
  refine wp_skip<|bm<|wp_seq ?_;rw[show jO s k=jO s k++(jN s (ab s.aE k)).take 0 from by simp] at U;refine aB λI a w U=>?_;refine St.lo (σ:=Nat×Value) (3::(9::(run 15 83 []))) ⟨λ⟨j,v2⟩=>[(9,AV.int j),(3,AV.val v2)],λ⟨j,v2⟩=>[Own.row v2 108 15 ((jO s k++(jN s (ab s.aE k)).take j).map az.cells),Own.gone],λ⟨j,v2⟩=>j<=2⟩ (λ⟨j,v2⟩=>2-j) (0,v) U ?iD ?od;case iD=>exact Nat.zero_le _
  rintro⟨j,v2⟩ I a w ao U;have hj:j<=2:=ao;dsimp only at U;refine aF λI a w U=>?_;refine cz (λbA=>?_) λbA=>?_
  .refine g9 λI a w U=>?_;refine U.o (.li [vd.cells] mB (.u .nil)) λU=>?_;refine U.o (.bd eU (.k (.k (.k (.k aZ.nil))))) λU=>?_;refine U.o (.li [({cn with kind:=5,aT:=s.site,to:=2-2*bM s.site+(j:Int),an:=[vd]}:az).cells] iN (.u .nil)) λU=>?_;refine U.append 0 rfl gA dV rfl .tt .r rfl (by have:=Bl s k hk;simp;omega) λv97 a w U=>?_;rw[cJ,VT (by unfold cP;rw[<-zn];simpa using aS) uv om] at U;refine aX λI a w U=>?_;exact U.ag (j+1,v97) (by show j+1<=2;omega)
  refine zt ?_;refine aR λI a w U=>?_;have U:=U.drop 1;rw[VU aK om] at U;exact U.ag (k+1,v2) (aK)
 refine zt ?_;refine U.l0 λb98 I a w U=>?_;refine aB λI a w U=>?_;rw[VR om] at U;refine aB λI a w U=>?_;refine St.lo (σ:=Nat×Value×Value) (3::(run 4 10 (run 54 99 []))) ⟨λ⟨i,v,u⟩=>[(11,AV.int i),(3,AV.val v),(10,AV.val u)],λ⟨i,v,u⟩=>[Own.row v 108 15 ((pd s (ot s i)).map az.cells),Own.row u 125 3 ((ot s i).map aw.cells)],λ⟨i,v,u⟩=>i<=s.waits.length⟩ (λ⟨i,v,u⟩=>s.waits.length-i) (0,v,.slice (some ⟨b98,0,none⟩) 0 0) U ?zq ?MR;case zq=>exact Nat.zero_le _
 rintro⟨i,v,u⟩ I a w ao U;have hi:i<=s.waits.length:=ao;dsimp only at U;refine cF λI a w U=>?_;refine cz (λbt=>?_) λbt=>?_
 .refine aB λI a w U=>?_;refine St.lo (σ:=Nat×Value×Value) (3::(10::(run 2 12 (run 47 106 [])))) ⟨λ⟨j,v2,u2⟩=>[(12,AV.int j),(3,AV.val v2),(10,AV.val u2)],λ⟨j,v2,u2⟩=>[Own.row v2 108 15 ((pd s (j0 s i j)).map az.cells),Own.row u2 125 3 ((j0 s i j).map aw.cells)],λ⟨j,v2,u2⟩=>j<=(ab s.waits i).aQ.length⟩ (λ⟨j,v2,u2⟩=>(ab s.waits i).aQ.length-j) (0,v,u) U ?MS ?ahO;case MS=>exact Nat.zero_le _
  rintro⟨j,v2,u2⟩ I a w ao U;have hj:j<=(ab s.waits i).aQ.length:=ao;have hdj:=sY _ (bh bt);dsimp only at U;refine oE λI a w U=>?_;refine cz (λcr=>?_) λcr=>?_
  .refine wJ λI a w U=>?_;refine U.alloc rfl cW gX λG5 I a w U=>?_;refine aB λI a w U=>?_;obtain⟨I,U⟩:=U.fb 2 13;refine aG λI a w U=>?_;refine U.o (.c2 (RO s _ dq.an)) λU=>?_;refine bx λI a w U=>?_;refine U.q .T (Fk 1 (ax .ag (ax .ag aH)) rfl (CO (j0 s i j) (ab (ab s.waits i).aQ j)) (λ_ _ _ h=>h)) λU=>?_;refine aF λI a w U=>?_;refine U.cd (λdC=>?_) λdC=>?_
   .refine aG λI a w U=>?_;refine U.o (.li [(ab (ab s.waits i).aQ j).cells] jk (.u .nil)) λU=>?_;refine U.append 1 rfl dX cW rfl .tt .r rfl (by have:=AZ sY i hi;have:=Dw s i j;have:=sY _ (bh bt);simp;omega) λahQ a w U=>?_;rw[cJ,show j0 s i j++[(ab (ab s.waits i).aQ j)]=j0 s i (j+1) from by rw[AY cr,Gq dC]] at U;refine aB λI a w U=>?_;refine U.dt 12 ?_;simp only[TD];refine fZ ?_;refine .o (.c1 (AI _ hg.site)) ?_;refine eb ?_;refine .o (.bd eU (.k (.k (.k (.k (.t aZ.nil)))))) ?_;refine .o (.li [(nb s (ab (ab s.waits i).aQ j)).cells] iN (.u .nil)) ?_;refine .nil ?_;intro I a w U;refine U.append 0 rfl gA dV rfl .tt .r rfl (by have:=AZ sY i hi;have:=Dw s i j;have:=sY _ (bh bt);have:=Bl s _ (Nat.le_refl s.aE.length);simp[pd];omega) λahR a w U=>?_;rw[cJ,VN,show j0 s i j++[(ab (ab s.waits i).aQ j)]=j0 s i (j+1) from by rw[AY cr,Gq dC]] at U;refine aX λI a w U=>?_;have U:=U.drop 2;exact U.ag (j+1,ahR,ahQ) (cr)
   refine aR λI a w U=>?_;have U:=U.drop 2;rw[show j0 s i j=j0 s i (j+1) from by rw[AY cr,TM dC]] at U;exact U.ag (j+1,v2,u2) (cr)
  refine zt ?_;refine aR λI a w U=>?_;rw[Ln bt om] at U;exact U.ag (i+1,v2,u2) (bt)
 refine wp_exit<|cB<|cB<|fo<|bm<|wp_seq ?_;rw[Lo s om,MM ae.2 h3] at U;obtain⟨I,U⟩:=U.fr 0 3;refine bD λI a w U=>?_;refine U.o (bO (Ld (ic s) (by have:=VO hg;omega) (λy hy=>yT (G9 hg y hy))) (ax .r aH)) λU=>?_;refine bf ?_;rfl
def ahS {w:ai} {e:Ev} (h:((e.kind==1)||(e.kind==2)||(e.kind==3))=true):cD w e=((g7 {w with time:=w.time+1} e).1,(g7 {w with time:=w.time+1} e).2):=by unfold cD;rw[if_pos (by simp at h;omega)]
def ahT {w:ai} {e:Ev} (h:((e.kind==1)||(e.kind==2)||(e.kind==3))=false) (h2:((e.kind==4)||(e.kind==5))=true):cD w e=((iG {w with time:=w.time+1} e).1,(iG {w with time:=w.time+1} e).2):=by unfold cD;rw[if_neg (by simp at h;omega),if_pos (by simpa using h2)]
def ahU {w:ai} {e:Ev} (h:((e.kind==1)||(e.kind==2)||(e.kind==3))=false) (h2:((e.kind==4)||(e.kind==5))=false) (h3:(!aJ e.kind 6 9||!cM e.at_)=true):cD w e=({w with time:=w.time+1},false):=by
 unfold cD;rw[if_neg (by simp at h;omega),if_neg (by simpa using h2),if_neg (by simp at h3;simp;intro h9;rcases h3 with h'|h';(rw[h'] at h9;cases h9);exact h')]
def ahV {w:ai} {e:Ev} (h:((e.kind==1)||(e.kind==2)||(e.kind==3))=false) (h2:((e.kind==4)||(e.kind==5))=false) (h3:(!aJ e.kind 6 9||!cM e.at_)=false):cD w e=((fG {w with time:=w.time+1} e).1,(fG {w with time:=w.time+1} e).2):=by
 unfold cD;rw[if_neg (by simp at h;omega),if_neg (by simpa using h2),if_pos (by simp at h3⊢;exact h3)]
def wK (l:List Ev) (k:Nat):ai:=(l.take k).foldl (λw e=>(bW w e).1) dT
def VZ {l:List Ev} {k:Nat} (h:¬2000<l.length) (hk:l.length<=k):wK l k=cx l:=by
 unfold wK cx;rw[if_neg h,List.take_of_length_le hk]
inductive Reach:ai->Prop
 |start:Reach dT
 |step {w:ai} {e:Ev}:Reach w->(cD w e).2=true->Reach (cD w e).1
structure c9 (n:Nat) (s:ew):Prop where
 reach:Reach s.w
 time:s.w.time<=n
 len:s.list.length<=n
 fit:∀e∈s.list,e.A2
def c9.mono {n m:Nat} {s:ew} (h:c9 n s) (hm:n<=m):c9 m s:=
 ⟨h.reach,by have:=h.time;omega,by have:=h.len;omega,h.fit⟩
def c9.start (n:Nat) (v:Value):c9 n ⟨dT,[],v⟩:=⟨.start,Int.natCast_nonneg n,Nat.zero_le _,λ_ h=>by simp at h⟩
def c9.ahW {n:Nat} {s:ew} {e:Ev} (h:c9 n s) (he:e.A2) (ao:(cD s.w e).2=true) (v:Value):c9 (n+1) ⟨(cD s.w e).1,s.list++[e],v⟩:=
 ⟨h.reach.step ao,by have:=h.time;show(cD s.w e).1.time<=_;rw[Bn];omega,by have:=h.len;show(s.list++[e]).length<=_;simp;omega,λx hx=>by
  rcases List.mem_append.1 hx with hx|hx
  .exact h.fit x hx
  obtain rfl:=List.mem_singleton.1 hx;exact he⟩
def bX.Fit {w:ai} (h:bX w):w.Fit:=⟨λm hm=>(by have:=xl (h.words m hm);unfold gV;omega),λq hq=>by
 obtain⟨i,hi,rfl⟩:=fS hq;have:=qS.1 (h.call hi).aj;unfold gV;omega⟩
def ahX {l:List Ev} {k:Nat} (h:k<l.length):(bW (wK l k) (ab l k)).1=wK l (k+1):=by
 unfold wK;rw[fe h,List.foldl_append];rfl
structure eL (w:ai) (m:az):Prop where
 k1:m.kind=1->∃q∈w.calls,m.aT=10+q.aj/\q.num=m.call/\m.to/2=q.aj/\q.kind=1/\ab q.keys 0=m.key/\q.val=m.val/\q.ctx=m.aQ
 k2:m.kind=2->∃v,be w (m.to-10).toNat v/\v.aj=m.to-10/\v.call=m.call/\v.key=m.key/\v.ar=m.ar
 k3:m.kind=3->∃q∈w.calls,m.aT=10+q.aj/\q.num=m.call/\m.to/2=q.aj
 k4:m.kind=4->∃q∈w.calls,m.to=10+q.aj/\q.num=m.call/\(m.yes=true->∃v,m.an=[v]/\v.key=m.key/\be w q.aj.toNat v/\(dw m.ar=true->bQ v.ar (bI q.ctx m.key)=false)/\(dw m.ar=false->v.ar=m.ar))/\
  (m.yes=false->dw m.ar=true/\bI q.ctx m.key=gm)
 k5:m.kind=5->∃v,m.an=[v]/\be w (m.aT/2).toNat v/\bM v.ar.site=m.aT/2
 k6:m.kind=6->∃v,v.aU=⟨m.key,m.ar⟩/\mY w (m.aT/2).toNat v
 k8:m.kind=8->∃v,v.aU=⟨m.key,m.ar⟩/\be w (m.aT/2).toNat v
 k9:m.kind=9->m.aT.toNat<4/\(m.bw<=ep w (bP m.aT.toNat) m.slot.toNat\/yG (sv w m.aT.toNat) m)
 ow:m.kind=10->m.aT.toNat<4/\m.bw<=ep w m.aT.toNat m.slot.toNat
def V0 {w:ai} {m:az} (hk:m.kind=2) (h:∃v,be w (m.to-10).toNat v/\v.aj=m.to-10/\v.call=m.call/\v.key=m.key/\v.ar=m.ar):eL w m:=by
 constructor<;>intro e<;>first|exact h|(rw[hk] at e;exact absurd e aP)
def V1 {w:ai} {m:az} (hk:m.kind=4) (h:∃q∈w.calls,m.to=10+q.aj/\q.num=m.call/\(m.yes=true->∃v,m.an=[v]/\v.key=m.key/\be w q.aj.toNat v/\(dw m.ar=true->bQ v.ar (bI q.ctx m.key)=false)/\(dw m.ar=false->v.ar=m.ar))/\(m.yes=false->dw m.ar=true/\bI q.ctx m.key=gm)):eL w m:=by
 constructor<;>intro e<;>first|exact h|(rw[hk] at e;exact absurd e aP)
def V2 {w:ai} {m:az} (hk:m.kind=6) (h:∃v:aA,v.aU=⟨m.key,m.ar⟩/\mY w (m.aT/2).toNat v):eL w m:=by
 constructor<;>intro e<;>first|exact h|(rw[hk] at e;exact absurd e aP)
def ahY {w:ai} {m:az} (hk:m.kind=7):eL w m:=by
 constructor<;>intro e<;>(rw[hk] at e;exact absurd e aP)
def ahZ {w:ai} {m:az} (hk:m.kind=8) (h:∃v:aA,v.aU=⟨m.key,m.ar⟩/\be w (m.aT/2).toNat v):eL w m:=by
 constructor<;>intro e<;>first|exact h|(rw[hk] at e;exact absurd e aP)
def ah0 {w:ai} {m:az} (hk:m.kind=9) (h:m.aT.toNat<4/\(m.bw<=ep w (bP m.aT.toNat) m.slot.toNat\/yG (sv w m.aT.toNat) m)):eL w m:=by
 constructor<;>intro e<;>first|exact h|(rw[hk] at e;exact absurd e aP)
def ah1 {w:ai} {m:az} (hk:m.kind=10) (h:m.aT.toNat<4/\m.bw<=ep w m.aT.toNat m.slot.toNat):eL w m:=by
 constructor<;>intro e<;>first|exact h|(rw[hk] at e;exact absurd e aP)
def ah2 (q:Call) (m:az) (t:Int):(cQ q m t).val=q.val:=by
 have e:∀q':Call,∀t,(kV q' t).val=q'.val:=λq' t=>by unfold kV;split<;>rfl
 unfold cQ iw mb lu;dsimp only;repeat' split
 all_goals first|rfl|exact e _ _
def Hd (q:Call) (m:az) (t:Int):j2 q (cQ q m t):=by
 obtain⟨a1,a2,_,_,a5,a6,a7⟩:=Hc q m t;exact⟨a1,a2,a7,a6,ah2 q m t,a5⟩
def DR {w:ai} (h:bX w) {i j:Nat} (hw:bV (ab w.calls i)=true) (j5:i<j) (hj:j<w.calls.length):(ab w.calls j).aj≠(ab w.calls i).aj:=λe=>by
 have:=((pb.1 h.calls).2 j hj).2.2.2 i j5;obtain⟨h1,h2⟩:=oZ hw;unfold mH at this;rw[e,h1,h2] at this;simp at this
def ah3 {w:ai} {m:az} (hk:m.kind=1) (h:∃q∈w.calls,m.aT=10+q.aj/\q.num=m.call/\m.to/2=q.aj/\q.kind=1/\ab q.keys 0=m.key/\q.val=m.val/\q.ctx=m.aQ):eL w m:=by
 constructor<;>intro e<;>first|exact h|(rw[hk] at e;exact absurd e aP)
def V3 {w:ai} {m:az} (hk:m.kind=3) (h:∃q∈w.calls,m.aT=10+q.aj/\q.num=m.call/\m.to/2=q.aj):eL w m:=by
 constructor<;>intro e<;>first|exact h|(rw[hk] at e;exact absurd e aP)
def runN (w:ai) (l:List Ev):ai:=l.foldl (λw e=>(bW w e).1) w
structure DS (s:Server) (m:az) (v:aA):Prop where
 kind:m.kind=1
 eq:v=eV s m
 ok:jM (fB s m)=true
 fresh:kU s m.key (m.aT-10) m.call=none
 owns:fE s m.key=true
def bR (w:ai) (e:Ev):ai:=if(cD w e).2=true then(cD w e).1 else w
def nc (w:ai) (e:Ev):(bR w e).time<=w.time+1:=by
 unfold bR;split
 .rw[Bn];exact Int.le_refl _
 omega
def ah4 {P:Program} {H:List Own} {Γ:Env} {g:Bool} {d:Option Tmp} {y z:Operand} {T T' ty:TypeId} {p:String} {af:Array Edge} {gd:Option (Nat×Bool)} {m n:Int} (hy:At Γ g y (.int m)) (hz:At Γ g z (.int n)):
 Ok P H Γ g ⟨d,.call ⟨.builtin .min,#[y,z],#[T,T']⟩,ty,p,af,gd⟩ (.int (min m n)):=
 iS λI a w he hg=>by
  have h1:a.eval y=.int .i64 m:=hy I a he hg;have h2:a.eval z=.int .i64 n:=hz I a he hg;have e:(if n<m then n else m)=min m n:=by split<;>omega
  simp only[execOp,resolve,invoke,builtin,Sem.run_bind,Sem.run_pure,Result.andThen_ok,List.map_toArray,List.map_cons,List.map_nil,h1,h2];simp[Builtin.min_,Builtin.min2,e]
end Go.Proofs.YtldbakcpcfdlaaaGreat
