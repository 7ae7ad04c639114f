/- Part 48: contracts of functions, plain facts. -/
import Derived.Test.YtjepcfpkclegdaaGreatQ06
set_option linter.unusedVariables false
set_option linter.unusedSimpArgs false
set_option maxRecDepth 100000
set_option maxHeartbeats 4000000
namespace Go.Proofs.YtjepcfpkclegdaaGreat
open Go Go.RowKit
attribute [local irreducible] wpList Code.wp Ok
theorem ahD (l:List (Answer)) (p:(Answer)->Bool) (fv:AV) (hf:∀x:Answer,x∈l->lW Tryz.prog fv [x.av] (AV.bool (p x))):
 Fn Tryz.prog 104 [qj l,fv] (AV.bool (hasB p l)):=by
 refine Fn.go 9 Tryz.func104 Tryz.ntmps104 (λW I a U=>?_)
 refine bk λI a w U=>?_
 refine U.o (.cl (Gs _ _ _ hf)) λU=>?_
 refine aA λI a w U=>?_
 refine U.rt ?_
 rfl
def zi (c:Call):List au:=c.az.foldl km c.ctx
def EE (c:Call) (a:Answer):Bool:=!dL (bx (zi c) a.key)&&mT a (bx (zi c) a.key)
def xF (c:Call):Bool:=!hasB (EE c) c.az
def BE (c:Call) (a:Answer):Bool:=bP a.be.aq (bx (eW c) a.key)||bP a.be.aq (bx c.ctx a.key)
def J7 (c:Call):Bool:=cF c.az.length λi=>!BE c (ab c.az i)
theorem ahE {c:Call} (hc:bN c.ctx=true) (h:∀a∈c.az,dB a=true) {a:Answer} (ha:a∈c.az):BE c a=EE c a:=by
 have yW:=pg (acc:=[]) rfl h
 have D8:=pg hc h
 have e1:bx (eW c) a.key=kd c.az a.key:=by
  show bx (c.az.foldl km []) a.key=_
  rw[yW.2 a.key]
  show du eV _=_
  exact pf (Ba h a.key)
 have e2:bx (zi c) a.key=du (bx c.ctx a.key) (kd c.az a.key):=D8.2 a.key
 unfold BE EE
 rw[e1,Bool.or_comm,<-Al,<-e2]
 have U:sd (bx (zi c) a.key):=sh D8.1 a.key
 generalize bx (zi c) a.key=s at U
 have hg:=h a ha
 rcases U with rfl|U
 ·have:dL eV=true:=rfl
  rw[this]
  simp only[Bool.not_true,Bool.false_and]
  cases hy:a.yes
  ·rw[u5 hg hy];rfl
  ·exact GQ (om (jk (pJ hg hy).1).2.1)
 ·rw[HR hg U]
  have:dL s=false:=by have:=om U;simp[dL];omega
  rw[this];simp
theorem ahF {c:Call} (hc:bN c.ctx=true) (h:∀a∈c.az,dB a=true):J7 c=xF c:=by
 unfold J7 xF
 rw[yP]
 exact xS rfl λi hi=>by rw[ahE hc h (aV hi)]
def rr (a b:List au):Bool:=decide (a=b)
def qe (w:aE) (i:Nat):Bool:=!((decide (0<(ab w.calls i).end_)&&!xF (ab w.calls i))||!rr (dP (ab w.calls i)) (mC w i))
def vH (w:aE):Bool:=ey w&&cF w.calls.length (qe w)
theorem ahG {x y:List au} (h:(x.length:Int)≠y.length):rr x y=false:=by
 unfold rr;simp;rintro rfl;exact h rfl
theorem ahH {x y:List au} {k:Nat} (h:decide (ab x k=ab y k)=false):rr x y=false:=by
 unfold rr;simp at h⊢;rintro rfl;exact h rfl
theorem ahI {x y:List au} (hl:(x.length:Int)=y.length) (h:∀i,i<x.length->decide (ab x i=ab y i)=true):rr x y=true:=by
 unfold rr;simp;exact MC (by omega) λi hi=>by simpa using h i hi
theorem ahJ (x:Answer) (l:List au):
 Fn Tryz.prog 105 [x.av,AV.ptr [bm l]] (AV.bool (!dL (bx l x.key)&&mT x (bx l x.key))):=by
 refine Fn.go 17 Tryz.func105 Tryz.ntmps105 (λW I a U=>?_)
 refine bM λI a w U=>?_
 refine U.o (.cl (HV ..)) λU=>?_
 refine U.alloc rfl l5 jU λb4 I a w U=>?_
 refine ai λI a w U=>?_
 obtain⟨I,U⟩:=U.fb 0 4
 refine U.o .la λU=>?_
 refine U.o (.c1 (vf ..)) λU=>?_
 refine bt λI a w U=>?_
 refine U.q .T (.cl (Gy ..)) λU=>?_
 refine aA λI a w U=>?_
 refine U.rt ?_
 rfl
theorem ahK (q:Call) (hc:bN q.ctx=true) (hg:∀y∈q.az,dB y=true):
 Fn Tryz.prog 60 [q.av] (AV.bool (xF q)):=by
 refine Fn.go 26 Tryz.func60 Tryz.ntmps60 (λW I a U=>?_)
 have lens:q.keys.length<=9223372036854775807/\q.az.length<=9223372036854775807/\q.aP.length<=9223372036854775807:=⟨U.ln 0 3,U.ln 0 11,U.ln 0 12⟩
 refine bt λI a w U=>?_
 refine U.alloc rfl oc LZ λb3 I a w U=>?_
 refine U.EV 0 oc .tt .r (by first|exact jR rfl|exact j0|exact j1|exact j6) rfl rfl λa w U=>?_
 refine aU λI a w U=>?_
 refine St.lo (σ:=Nat) (5::(run 10 11 [])) ⟨λk=>[(11,AV.int k)],λk=>[Own.box b3 34 [bm ((q.az.take k).foldl km q.ctx)]],λk=>k<=q.az.length⟩ (λk=>q.az.length-k) 0 U ?aJ ?aK
 case aJ=>exact Nat.zero_le _
 case aK=>
  rintro k I a w aj U
  have hk:k<=q.az.length:=aj
  refine ai λI a w U=>?_
  refine cz (λae=>?_) λae=>?_
  ·refine aF λI a w U=>?_
   refine U.alloc rfl fj od λb5 I a w U=>?_
   refine ai λI a w U=>?_
   obtain⟨I,U⟩:=U.fb 1 5
   refine bt λI a w U=>?_
   refine U.o (.cl (Ie _ _ (pg hc (wG hg k)).1 (pT (hg _ (aV ae))))) λU=>?_
   refine U.EV 0 oc .tt .r (by first|exact jR rfl|exact j0|exact j1|exact j6) rfl rfl λa w U=>?_
   refine aA λI a w U=>?_
   have U:=U.drop 1
   rw[show iK ((q.az.take k).foldl km q.ctx) (ab q.az k).be.aO=(q.az.take (k+1)).foldl km q.ctx by rw[wD ae];rfl] at U
   exact U.ag (k+1) (ae)
  ·refine zt ?_
   refine aF λI a w U=>?_
   change St _ _ [Own.box b3 34 [bm ((q.az.take k).foldl km q.ctx)]] _ _ _ at U
   rw[List.take_of_length_le (by omega)] at U
   obtain⟨I,U⟩:=U.fb 0 3
   refine U.o (mN (aw .tt aL)) λU=>?_
   refine U.o (.cl (ahD q.az (EE q) _ (λv _=>Fn.val (ahJ v (zi q))))) λU=>?_
   refine aA λI a w U=>?_
   refine U.rt ?_
   rfl
theorem So (x y:List au):
 Fn Tryz.prog 63 [bm x,bm y] (AV.bool (rr x y)):=by
 refine Fn.go 26 Tryz.func63 Tryz.ntmps63 (λW I a U=>?_)
 have xN:=U.cW (t:=0) rfl
 have hly:=U.cW (t:=1) rfl
 refine jj λI a w U=>?_
 refine cz (λae=>?_) λae=>?_
 ·refine ai λI a w U=>?_
  refine U.rt ?_
  exact bG (ahG ae).symm
 ·refine aI λI a w U=>?_
  refine St.lo (σ:=Nat) (run 2 4 (run 13 13 [])) ⟨λk=>[(13,AV.int k)],λk=>[],λk=>k<=x.length/\∀i,i<k->(λi=>decide (ab x i=ab y i)) i=true⟩ (λk=>x.length-k) 0 U ?aJ ?aK
  case aJ=>exact⟨Nat.zero_le _,λi hi=>by omega⟩
  case aK=>
   rintro k I a w aj U
   obtain⟨o1,aN⟩:=aj
   refine ai λI a w U=>?_
   refine cz (λah=>?_) λah=>?_
   ·refine aA λI a w U=>?_
    refine U.dk ?_
    refine nx ?_
    refine .o (uG [_,_,_] [_,_,_] uT rfl rfl .tt .tt)<|.nil ?_
    intro I a w U
    refine aY ?_
    refine U.cd (λal=>?_) λal=>?_
    ·rw[CE] at al;replace al:=nt al
     refine ai λI a w U=>?_
     refine U.rt ?_
     exact bG (ahH al).symm
    ·rw[CE] at al;replace al:=nf al
     refine aA λI a w U=>?_
     exact U.ag (k+1) (⟨by omega,fg aN al⟩)
   ·refine zt ?_
    refine ai λI a w U=>?_
    refine U.rt ?_
    exact bG (ahI ae λi hi=>aN i (by omega)).symm
theorem ahL {q:Call} {t:Int} (h:eX q t=true) (ht:0<=t):0<=q.end_/\q.end_<=t/\1<=q.bD/\q.bD<=t/\0<=q.an/\q.an<=1:=by
 have hp:=vr h
 simp only[eX,Bool.and_eq_true] at h
 have he:=h.2
 have bB:=hp.2.2.2.1
 simp[ff,aQ] at bB
 unfold ox at he
 by_cases h0:q.end_=0
 ·omega
 ·rw[if_neg h0] at he
  simp[aQ] at he;omega
theorem Sp {x:aE} {k:Nat} (h:0<=cM (lK (ab x.calls k).an) (x.calls.drop (k+1))):(ab x.calls ((k:Int)+1+cM (lK (ab x.calls k).an) (x.calls.drop (k+1))).toNat).ctx=mC x k:=by
 unfold mC fF
 rw[if_pos h,show((k:Int)+1+cM (lK (ab x.calls k).an) (x.calls.drop (k+1))).toNat=k+1+(cM (lK (ab x.calls k).an) (x.calls.drop (k+1))).toNat by omega]
theorem Sq {x:aE} {k:Nat} (h:cM (lK (ab x.calls k).an) (x.calls.drop (k+1))<0):ab x.seen (ab x.calls k).an.toNat=mC x k:=by
 unfold mC fF
 rw[if_neg (by omega)]
theorem ahM (x:aE) (k:Nat) (h:(decide (0<(ab x.calls k).end_)&&!xF (ab x.calls k))=true):qe x k=false:=by
 unfold qe;rw[h];rfl
theorem Sr (x:aE) (k:Nat) (h:(decide (0<(ab x.calls k).end_)&&!xF (ab x.calls k))=false) (h2:rr (dP (ab x.calls k)) (mC x k)=true):qe x k=true:=by
 unfold qe;rw[h,h2];rfl
theorem Ss (x:aE) (k:Nat) (h2:rr (dP (ab x.calls k)) (mC x k)=false):qe x k=false:=by
 unfold qe;rw[h2];simp
theorem ahN (d q:Call):
 Fn Tryz.prog 62 [d.av,AV.ptr q.cells] (AV.bool (lK q.an d)):=by
 refine Fn.go 9 Tryz.func62 Tryz.ntmps62 (λW I a U=>?_)
 refine ob λI a w U=>?_
 refine U.rt ?_
 rfl
theorem Su (x:aE) (hf:x.Fit) (hl:x.calls.length<=1048576):
 Fn Tryz.prog 37 [x.av] (AV.bool (vH x)):=by
 refine Fn.go 56 Tryz.func37 Tryz.ntmps37 (λW I a U=>?_)
 have lens:x.ax.length<=9223372036854775807/\x.ar.length<=9223372036854775807/\x.calls.length<=9223372036854775807/\x.seen.length<=9223372036854775807:=⟨U.ln 0 1,U.ln 0 2,U.ln 0 3,U.ln 0 4⟩
 refine bk λI a w U=>?_
 refine U.o (.c1 (D7 _ hf hl)) λU=>?_
 refine ai λI a w U=>?_
 refine U.cd (λae=>?_) λae=>?_
 ·replace ae:=nt ae
  refine ai λI a w U=>?_
  refine U.rt ?_
  exact bG (by unfold vH;rw[ae];rfl)
 ·replace ae:=nf ae
  refine aU λI a w U=>?_
  refine St.lo (σ:=Nat) (run 5 2 (run 43 13 [])) ⟨λk=>[(13,AV.int k)],λk=>[],λk=>k<=x.calls.length/\∀i,i<k->(qe x) i=true⟩ (λk=>x.calls.length-k) 0 U ?aJ ?aK
  case aJ=>exact⟨Nat.zero_le _,λi hi=>by omega⟩
  case aK=>
   rintro k I a w aj U
   obtain⟨o1,aN⟩:=aj
   refine ai λI a w U=>?_
   refine cz (λah=>?_) λah=>?_
   ·refine bk λI a w U=>?_
    refine U.alloc rfl dQ gD λb4 I a w U=>?_
    refine aA λI a w U=>?_
    obtain⟨I,U⟩:=U.fb 0 4
    have hp:=JY ae
    have yV:=hp.2.2.2.2.1 _ (aV ah)
    have Sv:=vr yV
    have uN:=ahL yV hp.1.1
    refine bM λI a w U=>?_
    refine U.q .T (.cl (ahK _ Sv.1 Sv.2.1)) λU=>?_
    refine aA λI a w U=>?_
    refine U.cd (λal=>?_) λal=>?_
    ·refine ai λI a w U=>?_
     refine U.rt ?_
     exact bG (by unfold vH;rw[eB (f:=qe x) ah (ahM x k al)];simp)
    ·refine Ad λI a w U=>?_
     refine U.o (BV mB dQ .r .tt (λ_=>by rw[List.length_map];omega)) λU=>?_
     rw[<-List.map_drop,show((k:Int)+1).toNat=k+1 by omega] at U
     refine U.o (mN (aw .tt aL)) λU=>?_
     refine U.o (.cl (MQ (x.calls.drop (k+1)) (lK (ab x.calls k).an) _ (λd _=>Fn.val (ahN d (ab x.calls k))))) λU=>?_
     refine aI λI a w U=>?_
     refine cz (λaH=>?_) λaH=>?_
     ·refine bM λI a w U=>?_
      refine U.o (kS .tt .tt (λ_=>by have:=AB (lK (ab x.calls k).an) (x.calls.drop (k+1));simp at this;change 0<=fF x.calls k (ab x.calls k).an at aH;unfold fF at*;omega)) λU=>?_
      refine U.o ((by first|exact dS mB dQ .tt .tt (λ_=>by have:=AB (lK (ab x.calls k).an) (x.calls.drop (k+1));simp at this;change 0<=fF x.calls k (ab x.calls k).an at aH;unfold fF at*;omega)|exact fS mB dQ .tt .tt (λ_=>by have:=AB (lK (ab x.calls k).an) (x.calls.drop (k+1));simp at this;change 0<=fF x.calls k (ab x.calls k).an at aH;unfold fF at*;omega)|exact fZ mB dQ .tt .tt (λ_=>by have:=AB (lK (ab x.calls k).an) (x.calls.drop (k+1));simp at this;change 0<=fF x.calls k (ab x.calls k).an at aH;unfold fF at*;omega))) λU=>?_
      refine bt λI a w U=>?_
      refine U.o (.c1 (DI _ _ yV)) λU=>U.m λU=>?_
      refine U.o (.cl (So ..)) λU=>?_
      refine ai λI a w U=>?_
      refine U.cd (λaM=>?_) λaM=>?_
      ·replace aM:=nt aM;rw[Sp aH] at aM
       refine ai λI a w U=>?_
       refine U.rt ?_
       exact bG (by unfold vH;rw[eB (f:=qe x) ah (Ss x k aM)];simp)
      ·replace aM:=nf aM;rw[Sp aH] at aM
       refine aA λI a w U=>?_
       have U:=U.drop 0
       exact U.ag (k+1) (⟨by omega,fg aN (Sr x k al (by first|exact aM|exact bh))⟩)
     ·refine bH λI a w U=>?_
      refine U.o (.c1 (DI _ _ yV)) λU=>U.m λU=>?_
      refine U.o (.cl (So ..)) λU=>?_
      refine ai λI a w U=>?_
      refine U.cd (λbh=>?_) λbh=>?_
      ·replace bh:=nt bh;rw[Sq aH] at bh
       refine ai λI a w U=>?_
       refine U.rt ?_
       exact bG (by unfold vH;rw[eB (f:=qe x) ah (Ss x k bh)];simp)
      ·replace bh:=nf bh;rw[Sq aH] at bh
       refine aA λI a w U=>?_
       have U:=U.drop 0
       exact U.ag (k+1) (⟨by omega,fg aN (Sr x k al (by first|exact aM|exact bh))⟩)
   ·refine zt ?_
    refine ai λI a w U=>?_
    refine U.rt ?_
    exact bG (by unfold vH;rw[ae,eP aN (by omega)];rfl)
theorem Sw {w:aE} (h:Inv w) (ht:w.time<=99999):vH w=true:=by
 unfold vH
 rw[ko.2 ⟨h.aW,ht⟩,Bool.true_and,gx]
 intro i hi
 have hg:=h.aW.call hi
 have hm:=aV hi
 unfold qe rr
 rw[h.jD i hi,decide_eq_true rfl]
 have:(decide (0<(ab w.calls i).end_)&&!xF (ab w.calls i))=false:=by
  by_cases he:0<(ab w.calls i).end_
  ·rw[decide_eq_true he,Bool.true_and,Bool.not_eq_false',<-ahF hg.ctx hg.aW]
   unfold J7
   rw[vo (p:=λa=>!BE (ab w.calls i) a)]
   intro a ha
   unfold BE
   rw[(h.az _ hm).ctx a ha,IK hg.aW]
   rcases P7 (l:=(ab w.calls i).az) (key:=a.key) with e|⟨b,hb,e⟩
   ·rw[e,Dl (hg.aW a ha)];rfl
   ·rw[<-e,Rt h hm (by omega) ha hb];rfl
  ·rw[decide_eq_false he];rfl
 rw[this];rfl
theorem SM (code:List UInt8):
 Fn Tryz.prog 18 [bE code] (AV.bool true):=by
 refine Fn.go 56 Tryz.func18 Tryz.ntmps18 (λW I a U=>?_)
 have hle:=U.cW (t:=0) rfl
 refine aU λI a w U=>?_
 refine cz (λae=>?_) λae=>?_
 ·refine ai λI a w U=>?_
  refine U.rt ?_
  rfl
 ·refine bH λI a w U=>?_
  refine U.cG [] (nU code (by omega)) (aw .r aL) rfl (by decide) rfl λl I a w R4 U=>?_
  refine aF λI a w U=>?_
  refine U.o (.cl (nT l)) λU=>?_
  refine U.alloc rfl df dz λb4 I a w U=>?_
  refine ai λI a w U=>?_
  obtain⟨I,U⟩:=U.fb 0 4
  refine U.m λU=>?_
  refine U.o (.cl (mj l)) λU=>?_
  refine U.alloc rfl df dz λb5 I a w U=>?_
  refine ai λI a w U=>?_
  obtain⟨I,U⟩:=U.fb 1 5
  refine aF λI a w U=>?_
  refine U.o (.c2 (mG (ba l) (mI _))) λU=>?_
  refine bk λI a w U=>?_
  refine U.q .F (.cl (J6 (ba l) (iQ _).1.aW.Fit (iQ _).1.aW.small.2.2.1.1)) λU=>?_
  refine bt λI a w U=>?_
  refine U.q .F (.cl (Su (ba l) (iQ _).1.aW.Fit (iQ _).1.aW.small.2.2.1.1)) λU=>?_
  refine aA λI a w U=>?_
  refine U.cd (λah=>?_) λah=>?_
  ·exfalso;rw[J0 (iQ _).1 (iQ _).2,Sw (iQ _).1 (iQ _).2] at ah;simp at ah
   skip
  ·refine wp_skip<|aY<|wp_seq<|wp_seq ?_
   obtain⟨hI,hT⟩:=iQ l
   have lr:=lT l
   have ec:=hI.aW
   have lD:=rn l
   have dC:=qc l
   have sZ:=ec.small.2.2.1.1
   refine ai λI a w U=>?_
   have U:=U.drop 0
   refine St.lo (σ:=Nat) (2::(run 2 6 (run 25 31 []))) ⟨λk=>[(6,AV.int k)],λk=>[],λk=>k<=6⟩ (λk=>6-k) 1 U ?aJ ?aK
   case aJ=>show 1<=6;omega
   case aK=>
    rintro k I a w aj U
    have m5:k<=6:=aj
    refine jT λI a w U=>?_
    refine nw (λal=>?_) λal=>?_
    ·obtain⟨h1,h2⟩:=al
     refine wp_skip<|aY<|wp_seq<|wp_block<|wp_seq ?_
     have Y8:(l.length:Int)*k<=l.length*5:=Int.mul_le_mul_of_nonneg_left (by omega) (by omega)
     have z8:0<=(l.length:Int)*k:=Int.mul_nonneg (by omega) (by omega)
     refine bt λI a w U=>?_
     refine U.o (kf .tt .tt (λ_=>by omega)) λU=>?_
     refine U.o (tf .tt .c (λ_=>by omega)) λU=>?_
     refine U.o (te jL iH .r .tt (λ_=>by simp only[List.length_map];omega)) λU=>?_
     rw[<-List.map_take] at U
     refine U.o (.cl (mj (l.take ((l.length:Int)*k/6).toNat))) λU=>?_
     refine U.alloc rfl df dz λb7 I a w U=>?_
     refine ai λI a w U=>?_
     obtain⟨I,U⟩:=U.fb 0 7
     refine U.o .la λU=>?_
     refine U.o (.c1 (J6 (ba (l.take ((l.length:Int)*k/6).toNat)) (iQ _).1.aW.Fit (iQ _).1.aW.small.2.2.1.1)) λU=>?_
     refine bk λI a w U=>?_
     refine U.q .F (.cl (Su (ba (l.take ((l.length:Int)*k/6).toNat)) (iQ _).1.aW.Fit (iQ _).1.aW.small.2.2.1.1)) λU=>?_
     refine aA λI a w U=>?_
     refine U.cd (λaH=>?_) λaH=>?_
     ·exfalso;rw[J0 (iQ _).1 (iQ _).2,Sw (iQ _).1 (iQ _).2] at aH;simp at aH
      skip
     ·refine aI λI a w U=>?_
      have U:=U.drop 0
      exact U.ag (k+1) (by show k+1<=_;omega)
    ·refine zt ?_
     refine ai λI a w U=>?_
     refine U.rt ?_
     rfl
end Go.Proofs.YtjepcfpkclegdaaGreat
