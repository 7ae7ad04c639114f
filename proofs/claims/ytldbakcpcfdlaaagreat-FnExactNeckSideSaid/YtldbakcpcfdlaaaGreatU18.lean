/- Part 18: contracts of functions, plain facts. -/
import Derived.Test.YtldbakcpcfdlaaaGreatU11
import Derived.Test.YtldbakcpcfdlaaaGreatU13
import Derived.Test.YtldbakcpcfdlaaaGreatU14
set_option linter.all false
set_option maxRecDepth 100000
set_option maxHeartbeats 4000000
namespace Go.Proofs.YtldbakcpcfdlaaaGreat
open Go Go.RowKit Tryz
attribute [local irreducible] wpList Code.wp Ok
def yr (n:Int) (hn:bD n):
 Fn prog 145 [AV.int n] (AV.bool (qQ n)):=by
 refine Fn.go 10 func145 ntmps145 (λW I a U=>?_);refine aL λI a w U=>?_;refine U.o (.c1 (pe ..)) λU=>?_;refine aL λI a w U=>?_;refine U.q .F (zG (.g rfl (λh=>h)) .c) λU=>?_;refine U.q .F (.cl (r6 ..)) λU=>?_;refine bQ ?_;exact aQ (by rw[Fm hn,E5];rfl)
def yt:∀{l:List al} {v:al},(∀x∈l,x.cG≠v.cG)->gM l v=eZ l v
 |[],_,_=>rfl
 |x::r,v,h=>by
  have hx:=h x aJ;have ih:=yt (l:=r) (v:=v) λy hy=>h y (by simp[hy]);unfold eZ gM;cases h1:c4 v x
  .cases h2:c4 x v
   .exact absurd (FO h2 h1) hx
   simp[ih]
  rw[show c4 x v=false from E9 h1];simp
def yu (out:List al) (v:al):pI out v=cM out v:=by
 unfold cM pI;split
 .rename_i h;exact yt (Fa h)
 rfl
def yv:∀{l out:List al},VS (out++l)->l.foldl cM out=out++l
 |[],out,_=>by simp
 |v::r,out,h=>by
  have h1:∀x∈out,c4 x v=true:=λx hx=>(List.pairwise_append.1 h).2.2 x hx v aJ;have h2:cM out v=out++[v]:=by
   unfold cM;rw[if_pos (FR λx hx he=>?_),xT h1];have:=h1 x hx;unfold c4 at this;rw[he,FP] at this;cases this
  rw[List.foldl_cons,h2,yv (by simpa using h)];simp
def GR {l:List al} (h:cJ l=true):VS l:=by
 unfold cJ at h;rw[Bool.and_eq_true,fF] at h;refine FT (R:=λa b=>c4 a b=true) (λh1 h2=>FQ h1 h2) λi h0 hi=>?_;have:=h.2 i hi;unfold cA at this;rw[Bool.and_eq_true,Bool.or_eq_true,decide_eq_true_eq] at this;rcases this.2 with h3|h3
 .omega
 exact h3
def GS {w:bB} {s:Int} (h:VS (ae w.aM (2*s).toNat).ao):fS w s 2=j2 w s:=by
 rw[nJ,nJ];have e:fS w s 0=[]:=rfl;rw[e];have:=yv (out:=[]) (l:=(ae w.aM (2*s+((0:Nat):Int)).toNat).ao) (by simpa using h);rw[this];unfold j2;simp
def GU (q:Call):
 Fn prog 227 [q.av] (AV.bool (iF q)):=by
 refine Fn.go 100 func227 ntmps227 (λW I a U=>?_);have lens:q.keys.length<=9223372036854775807/\q.aG.length<=9223372036854775807/\q.aR.length<=9223372036854775807:=⟨U.ln 0 3,U.ln 0 11,U.ln 0 12⟩;refine fQ λI a w U=>?_;refine St.lo (σ:=Nat) (run 3 2 (run 56 11 [])) ⟨λk=>[(11,AV.int k)],λk=>[],λk=>k<=q.aG.length/\∀i,i<k->(g8 q) i=true⟩ (λk=>q.aG.length-k) 0 U ?ar ?aW;case ar=>exact⟨Nat.zero_le _,λi hi=>by omega⟩
 rintro k I a w ak U;obtain⟨jW,au⟩:=ak;refine aq λI a w U=>?_;refine cz (λab=>?_) λab=>?_
 .refine aN λI a w U=>?_;refine U.alloc rfl dQ oR λb4 I a w U=>?_;refine aH λI a w U=>?_;obtain⟨I,U⟩:=U.fb 0 4;refine U.dk ?_;refine iu ?_;refine .o (.cl (Fe ..)) ?_;refine jK ?_;refine c6 ?_;refine .nil ?_;intro I a w U;refine bM ?_;refine U.cd (λah=>?_) λah=>?_
  .rw[sj] at ah;replace ah:=nt ah;refine an ?_;exact aQ (by unfold iF g9;rw[cF (f:=g8 q) ab (by unfold g8;rw[ah];rfl)];rfl)
  rw[sj] at ah;replace ah:=nf ah;refine bJ λI a w U=>?_;refine U.q .T (.cl (w9 ..)) λU=>?_;refine v3 λI a w U=>?_;refine U.q .T2 (.bd dP bU.nil) λU=>?_;refine U.q .T2 (.cl (Ei _ ma)) λU=>?_;refine aK λI a w U=>?_;refine U.cd (λai=>?_) λai=>?_
  .rw[xY] at ai;replace ai:=nt ai;refine an ?_;exact aQ (by unfold iF g9;rw[cF (f:=g8 q) ab (by unfold g8;rw[ah,ai];rfl)];rfl)
  rw[xY] at ai;replace ai:=nf ai;refine aH λI a w U=>?_;have U:=U.drop 0;exact U.ag (k+1) (⟨by omega,cT au (by unfold g8;rw[ah,ai];rfl)⟩)
 refine zt ?_;refine bc λI a w U=>?_;refine St.lo (σ:=Nat) (2::(run 2 6 (run 22 70 []))) ⟨λk2=>[(70,AV.int k2)],λk2=>[],λk2=>k2<=q.aR.length/\∀i,i<k2->(jk q) i=true⟩ (λk2=>q.aR.length-k2) 0 U ?fJ ?k8;case fJ=>exact⟨Nat.zero_le _,λi hi=>by omega⟩
 rintro k2 I a w ak U;obtain⟨me,dE⟩:=ak;refine aq λI a w U=>?_;refine cz (λaF=>?_) λaF=>?_
 .refine aL λI a w U=>?_;refine U.alloc rfl ep gY λb6 I a w U=>?_;refine aq λI a w U=>?_;obtain⟨I,U⟩:=U.fb 0 6;refine aN λI a w U=>?_;refine U.o (.c2 (Fu ..)) λU=>?_;refine aq λI a w U=>?_;refine U.dk ?_;refine lS ?_;refine .q .F ((by first|exact ij eI dQ .ag .ag (λhg=>by have h0:0<=dp q (ae q.aR k2).key:=(by simpa using hg);have:=kY h0;omega)|exact gR eI dQ .ag .ag (λhg=>by have h0:0<=dp q (ae q.aR k2).key:=(by simpa using hg);have:=kY h0;omega)|exact hP eI dQ .ag .ag (λhg=>by have h0:0<=dp q (ae q.aR k2).key:=(by simpa using hg);have:=kY h0;omega))) ?_;refine gE ?_;refine .q .F (.cl (FW ..)) ?_;refine fj ?_;refine .nil ?_;intro I a w U;refine bM ?_;refine U.cd (λaS=>?_) λaS=>?_
  .rw[x8] at aS;replace aS:=nt aS;refine an ?_;exact aQ (by unfold iF g9;rw[cD au om,cF (f:=jk q) aF aS];rfl)
  rw[x8] at aS;replace aS:=nf aS;refine aH λI a w U=>?_;have U:=U.drop 0;exact U.ag (k2+1) (⟨by omega,cT dE aS⟩)
 refine zt ?_;refine fH λI a w U=>?_;refine U.q .F (.cl (x3 ..)) λU=>?_;refine bQ ?_;exact aQ (by unfold iF g9;rw[cD au om,cD dE om];rfl)
def GV (q:Call) (time:Int) (ht:time<=4611686018427387904):
 Fn prog 150 [q.av,AV.int time] (AV.bool (eK q time)):=by
 refine Fn.go 125 func150 ntmps150 (λW I a U=>?_);have lens:q.keys.length<=9223372036854775807/\q.aG.length<=9223372036854775807/\q.aR.length<=9223372036854775807:=⟨U.ln 0 3,U.ln 0 11,U.ln 0 12⟩;refine ax λI a w U=>?_;refine U.o (.c1 (r6 ..)) λU=>?_;refine ax λI a w U=>?_;refine U.q .F (.cl (dG ..)) λU=>?_;refine ax λI a w U=>?_;refine U.q .F (.cl (ER ..)) λU=>?_;refine bJ λI a w U=>?_;refine U.q .F (.cl (dG ..)) λU=>?_;refine bJ λI a w U=>?_;refine U.q .F (.cl (nq ..)) λU=>?_;refine bJ λI a w U=>?_;refine U.q .F (.cl (nq ..)) λU=>?_;refine fH λI a w U=>?_;refine U.q .F (.cl (dG ..)) λU=>?_;refine bJ λI a w U=>?_;refine U.q .F (.cl (x5 ..)) λU=>?_;refine ax λI a w U=>?_;refine U.q .F (.cl (GU ..)) λU=>?_;refine aH λI a w U=>?_;refine U.cd (λab=>?_) λab=>?_
 .rw[yf] at ab;replace ab:=nt ab;refine an ?_;exact aQ (by unfold eK;rw[ab];rfl)
 rw[yf] at ab;replace ab:=nf ab;refine vY λI a w U=>?_;refine U.q .T (ba .ag .ag (λhg=>by have:=EP ab;omega)) λU=>?_;refine vY λI a w U=>?_;refine U.q .F2 (.cl (pC ..)) λU=>?_;refine bc λI a w U=>?_;refine U.cd (λah=>?_) λah=>?_
 .rw[yk] at ah;replace ah:=nt ah;refine an ?_;exact aQ (by unfold eK;rw[ab,ah];rfl)
 rw[yk] at ah;replace ah:=nf ah;refine aK λI a w U=>?_;refine cz (λai=>?_) λai=>?_
 .refine aL λI a w U=>?_;refine U.o (.c1 (pC ..)) λU=>?_;refine an ?_;exact aQ (by unfold eK ny;rw[ab,ah,if_pos ai];rfl)
 refine gX λI a w U=>?_;refine U.q .F (ba .ag .c (λhg=>by have:=EO ab;omega)) λU=>?_;refine U.q .F .mv λU=>?_;refine U.q .F (.cl (dG ..)) λU=>?_;refine db λI a w U=>?_;refine U.cd (λaF=>?_) λaF=>?_
 .refine an ?_;exact aQ (by unfold eK ny;rw[ab,ah,if_neg ai,aF];rfl)
 refine ax λI a w U=>?_;refine U.q .T (.cl (pC ..)) λU=>?_;refine gX λI a w U=>?_;refine U.q .T2 (.cl (x3 ..)) λU=>?_;refine oO ?_;exact aQ (by unfold eK ny;rw[ab,ah,if_neg ai,aF];rfl)
def GW (x:bB):
 Fn prog 41 [x.av,x.av] (AV.bool true):=by
 refine Fn.go 34 func41 ntmps41 (λW I a U=>?_);refine db λI a w U=>?_;refine U.cd (λab=>?_) λab=>?_
 .exfalso;simp at ab;skip
 refine ax λI a w U=>?_;refine U.o (.cl (FJ ..)) λU=>?_;refine aq λI a w U=>?_;refine U.cd (λah=>?_) λah=>?_
 .exfalso;simp at ah;skip
 refine ax λI a w U=>?_;refine U.o (.cl (F5 ..)) λU=>?_;refine aq λI a w U=>?_;refine U.cd (λai=>?_) λai=>?_
 .exfalso;simp at ai;skip
 refine ax λI a w U=>?_;refine U.o (.cl (EX ..)) λU=>?_;refine aq λI a w U=>?_;refine U.cd (λaF=>?_) λaF=>?_
 .exfalso;simp at aF;skip
 refine ax λI a w U=>?_;refine U.o (.cl (EY ..)) λU=>?_;refine aq λI a w U=>?_;refine U.cd (λaS=>?_) λaS=>?_
 .exfalso;simp at aS;skip
 refine an ?_;rfl
def fu (s:Server):Bool:=j4 s&&bC s.cn.length (lg s)&&bC s.ao.length (mh s)&&bC s.waits.length (mi s)&&pD s.ao s.bV
def fU (l:List Call) (time:Int) (i:Nat):Bool:=(nF l time i&&((ae l i).num==dK l (i+1) (ae l i).bl))&&bC i λj=>!fT (ae l j) (ae l i)
def fV (l:List Call) (time:Int):Bool:=bC l.length (fU l time)&&decide (l.length<=20)
def js (w:bB) (i:Nat):Bool:=((ae w.aM i).site==(i:Int))&&fu (ae w.aM i)
def fa (w:bB):Bool:=hJ w&&bC w.aM.length (js w)&&!hasB nG w.c0&&!hasB nH w.seen&&fV w.calls w.time
def s6 (w:bB) (k:Nat):(((ae w.aM k).site !=(k:Int))||!fu (ae w.aM k))=!js w k:=by simp[js,bne]
def ym (w:bB) (k:Nat):(!fu (ae w.aM k)||((ae w.aM k).site !=(k:Int)))=!js w k:=by rw[Bool.or_comm,s6]
def s7 {w:bB} (h:fa w=true) {k:Nat} (hk:k<4):fu (ae w.aM k)=true/\w.aM.length=4/\(ae w.aM k).site=k:=by
 simp only[fa,Bool.and_eq_true] at h;have hl:w.aM.length=4:=by
  have:=h.1.1.1.1;simp[hJ] at this;omega
 have:=(fF.1 h.1.1.1.2) k om;unfold js at this;rw[Bool.and_eq_true] at this;exact⟨this.2,hl,by simpa using this.1⟩
def GJ {s:Server} (h:fu s=true):j4 s=true:=by
 simp only[fu,Bool.and_eq_true] at h;exact h.1.1.1.1
def yn {l:List Call} {time:Int} {j:Nat} (h:fU l time j=true):(ae l j).num=dK l (j+1) (ae l j).bl:=by
 simp only[fU,Bool.and_eq_true,beq_iff_eq] at h;exact h.1.2
def pO (l:List Call) (time:Int) (k:Nat):fU l time k=((nF l time k&&((ae l k).num==dK l (k+1) (ae l k).bl))&&bC k λj=>!fT (ae l j) (ae l k)):=rfl
def GK (l:List Call) (time:Int) (ht:time<=4611686018427387904) (mc:∀q∈l,q.aG.length<=1048576):
 Fn prog 87 [ja l,AV.int time] (AV.bool (fV l time)):=by
 refine Fn.go 98 func87 ntmps87 (λW I a U=>?_);have hle:=U.cB (t:=0) rfl;refine bc λI a w U=>?_;refine cz (λab=>?_) λab=>?_
 .refine an ?_;exact aQ (by unfold fV;rw[ES ab];simp)
 refine aq λI a w U=>?_;refine St.lo (σ:=Nat) (run 4 4 (run 87 11 [])) ⟨λk=>[(5,AV.int k)],λk=>[],λk=>k<=l.length/\∀i,i<k->(fU l time) i=true⟩ (λk=>l.length-k) 0 U ?ar ?aW;case ar=>exact⟨Nat.zero_le _,λi hi=>by omega⟩
 rintro k I a w ak U;obtain⟨jW,au⟩:=ak;refine bc λI a w U=>?_;refine cz (λah=>?_) λah=>?_
 .refine zt ?_;refine U.dk ?_;refine lR ?_;refine .o (.c2 (El _ _ ht (mc _ (ez ah)))) ?_;refine jK ?_;refine gE ?_;refine .nil ?_;intro I a w U;refine bM ?_;refine U.cd (λai=>?_) λai=>?_
  .rw[xU] at ai;replace ai:=nt ai;refine an ?_;exact aQ (by unfold fV;rw[cF (f:=fU l time) ah (by rw[pO,ai];rfl)];rfl)
  rw[xU] at ai;replace ai:=nf ai;refine aH λI a w U=>?_;refine St.lo (σ:=Nat) (4::(run 2 6 (run 48 42 []))) ⟨λk2=>[(7,AV.int k2),(6,AV.int (dK l k2 (ae l k).bl))],λk2=>[],λk2=>k2<=k/\∀i,i<k2->(λj=>!fT (ae l j) (ae l k)) i=true⟩ (λk2=>k-k2) 0 U ?fJ ?k8;case fJ=>exact⟨Nat.zero_le _,λi hi=>by omega⟩
  rintro k2 I a w ak U;obtain⟨me,dE⟩:=ak;refine aK λI a w U=>?_;refine cz (λaF=>?_) λaF=>?_
  .refine aq λI a w U=>?_;refine cz (λaS=>?_) λaS=>?_
   .refine zt ?_;refine aK λI a w U=>?_;refine U.again (k2+1) ?bu ?bw bh ?bx (by repeat(first|exact Env.le_rfl|refine Env.cL rfl ?_));case bu=>omega
    case bw=>exact⟨by omega,cT dE (by show(!fT (ae l k2) (ae l k))=true;rw[Ff aS];rfl)⟩
    case bx=>exact(Env.aU rfl bh (Env.aU rfl (by first|exact congrArg AV.int (by rw[nE om,if_neg aS])|exact congrArg AV.int (by rw[yn (au k2 om),show(ae l k2).bl=(ae l k).bl by omega])) Env.le_nil))
   refine lP λI a w U=>?_;refine U.cd (λbL=>?_) λbL=>?_
   .rw[x4 om] at bL;refine an ?_;exact aQ (by unfold fV;rw[cF (f:=fU l time) ah (by rw[pO,cF (f:=λj=>!fT (ae l j) (ae l k)) (k:=k2) om (by rw[bL];rfl)];simp)];rfl)
   rw[x4 om] at bL;refine aK λI a w U=>?_;refine U.again (k2+1) ?s8 ?s9 bh ?ta (by repeat(first|exact Env.le_rfl|refine Env.cL rfl ?_));case s8=>omega
   case s9=>exact⟨by omega,cT dE (by show(!fT (ae l k2) (ae l k))=true;rw[bL];rfl)⟩
   case ta=>exact(Env.aU rfl bh (Env.aU rfl (by first|exact congrArg AV.int (by rw[nE om,if_neg aS])|exact congrArg AV.int (by rw[yn (au k2 om),show(ae l k2).bl=(ae l k).bl by omega])) Env.le_nil))
  refine zt ?_;refine fH λI a w U=>?_;refine U.o (ba .tt .c (λ_=>by have:=sA l k2 (ae l k).bl;omega)) λU=>?_;refine aq λI a w U=>?_;refine cz (λbz=>?_) λbz=>?_
  .refine an ?_;exact aQ (by unfold fV;rw[cF (f:=fU l time) ah (by rw[pO,nE ah,if_pos rfl,show((ae l k).num==dK l k (ae l k).bl+1)=false by(rw[show k2=k by omega] at bz;simpa using bz)];simp)];rfl)
  refine aK λI a w U=>?_;exact U.ag (k+1) (⟨by omega,cT au (by rw[pO,ai,cD dE om];simp only[Bool.true_and,Bool.and_true,beq_iff_eq];rw[nE ah,if_pos rfl];rw[show k2=k by omega] at bz;omega)⟩)
 refine zt ?_;refine an ?_;exact aQ (by unfold fV;rw[cD au om];simp;omega)
def yo (x:bB):(!aI x.time 0 99999||((x.aM.length:Int) !=4)||decide (60<(x.c0.length:Int))||((x.seen.length:Int) !=2)||!fV x.calls x.time)=!(hJ x&&fV x.calls x.time):=by
 unfold hJ;simp
def j6 {x:bB} (ak:fa x=true) {i:Nat} (hi:i<4):cJ (ae x.aM i).ao=true/\cJ (ae x.aM i).waits=true/\fg (ae x.aM i).bV=true/\fg (ae x.aM i).ek=true/\(ae x.aM i).cn.length=3:=by
 have h:=s7 ak hi;have h2:=sP (GJ h.1);exact⟨h2.2.1,h2.2.2.1,h2.2.2.2.1,h2.2.2.2.2.1,h2.1⟩
def eD (w:bB):Nat:=jr w.aM+jq w.c0+iJ w.calls+iK w.seen
def GL (x:bB) (left:Int) (h0:0<=left) (h1:left<=1048576):
 Fn prog 37 [x.av,AV.int left] (AV.int (bq left (eD x))):=by
 refine Fn.go 30 func37 ntmps37 (λW I a U=>?_);refine bJ λI a w U=>?_;refine U.o (.cl (F3 _ _ h0 h1)) λU=>?_;refine aK λI a w U=>?_;refine cz (λab=>?_) λab=>?_
 .refine an ?_;exact aT (dh ab (by unfold eD;omega))
 refine aN λI a w U=>?_;refine U.o (.cl (Fi _ _ ab (eB h1))) λU=>?_;rw[eA ab] at U;refine aK λI a w U=>?_;refine cz (λah=>?_) λah=>?_
 .refine an ?_;exact aT (dh ah (by unfold eD;omega))
 refine aN λI a w U=>?_;refine U.o (.cl (Fk _ _ ah (eB h1))) λU=>?_;rw[eA ah] at U;refine aK λI a w U=>?_;refine cz (λai=>?_) λai=>?_
 .refine an ?_;exact aT (dh ai (by unfold eD;omega))
 refine aN λI a w U=>?_;refine U.o (.cl (Fw _ _ ai (eB h1))) λU=>?_;rw[eA ai] at U;refine aK λI a w U=>?_;refine cz (λaF=>?_) λaF=>?_
 .refine an ?_;exact aT (dh aF (by unfold eD;omega))
 refine bQ ?_;exact aT rfl
def GM {x:bB} (h:eD x<=1048576):x.calls.length<=1048576/\∀q∈x.calls,q.aG.length<=1048576:=by
 unfold eD iJ at h;refine⟨by omega,λq hq=>?_⟩;obtain⟨k,hk,rfl⟩:=kT hq;have:=lf (f:=dT) hk;have h3:dT (ae x.calls k)<=1048576:=by omega
 unfold dT iG at h3;omega
def GN {x:bB} (h:0<=bq 1048576 (eD x)):eD x<=1048576:=by have:=FZ h;omega
def GO {x:bB} (h:eD x<=1048576):lZ x<=12582912:=by
 have v:∀l:List al,gr l<=6*gJ l:=wU;have s:=l8 (f:=iz) (g:=eh) (c:=6) (λs=>by have h1:=v s.ao;have h2:=v s.waits;simp only[iz,eh,nA,dJ];omega) x.aM;have m:=l8 (f:=iA) (g:=eL) (c:=11) (λm=>by have h1:=v m.ao;have h2:=v m.waits;simp only[iA,eL,dJ];omega) x.c0;have q:=l8 (f:=iB) (g:=dT) (c:=9) (λq=>by
  have h1:=l8 (f:=g0) (g:=gK) (c:=8) (λa=>by simp only[g0,ew,gK,gI,dJ];omega) q.aG;simp only[iB,dT,dJ,nM,iG,bY];omega) x.calls
 have d:=l8 (f:=λl:List ay=>3*l.length) (g:=dJ) (c:=3) (λl=>by simp only[dJ];omega) x.seen;unfold eD jr jq iJ iK bY at h;unfold lZ;omega
def GP {x:bB} (h:eD x<=1048576):x.seen.length<=1048576:=by unfold eD iK at h;omega
def dq (x:bB) (s:Int):List al:=if fa x&&aI s 0 1 then j2 x s else[]
def yp {x:bB} (ak:fa x=true) {s:Int} (h0:0<=s) (h1:s<=1):∀{j:Nat},j<=2->(fS x s j).length<=80*j
 |0,_=>by simp[fS]
 |j+1,hj=>by
  have ih:=yp ak h0 h1 (j:=j) om;have hc:=mg (j6 ak (i:=(2*s+j).toNat) om).1;rw[nJ];have:=nI (ae x.aM (2*s+j).toNat).ao (fS x s j);omega
def yq {x:bB} (ak:fa x=true) {s:Int} (h0:0<=s) (h1:s<=1):∀{j:Nat},j<=2->∀v∈fS x s j,v.aA.length<=6
 |0,_=>by intro v hv;simp[fS] at hv
 |j+1,hj=>by
  rw[nJ];exact pB (jo (j6 ak (i:=(2*s+j).toNat) om).1) (yq ak h0 h1 (j:=j) om)
def GQ {x:bB} {s:Int}:gr (dq x s)<=5000:=by
 unfold dq;split
 .rename_i h;rw[Bool.and_eq_true] at h;obtain⟨h,hi⟩:=h;have J5:0<=s/\s<=1:=by simpa[aI] using hi
  obtain⟨ca,-⟩:=j6 h (i:=(2*s).toNat) om;obtain⟨cb,-⟩:=j6 h (i:=(2*s+1).toNat) om;have la:=mg ca;have lb:=mg cb;have hn:=nI (ae x.aM (2*s+1).toNat).ao (ae x.aM (2*s).toNat).ao;have hv:∀v∈j2 x s,v.aA.length<=6:=pB (jo cb) (jo ca);have hb:=wV (f:=ew) (c:=24) (l:=j2 x s) λv h=>by have:=hv v h;unfold ew;omega
  have hl:(j2 x s).length<=160:=by unfold j2;omega
  have h2:=Nat.mul_le_mul_right 24 hl;unfold gr;omega
 simp[gr]
def Gv (k:Nat) (t:NT) (hb:k+lZ t.plain<=1152921504606846976) (hl:t.seen.length<=1152921504606846976):
 c5 prog 42 [t.av,AV.int (k:Nat)] (t.owns KK) ((nc k t).1.owns KK) (AV.int ((nc k t).2:Nat)):=by
 refine c5.intro 22 func42 rfl ntmps42 rfl aj (λW I a U=>?_);simp only[lZ,NT.plain,List.map_map,Function.comp_def] at hb;dsimp only[NT.owns] at U;refine bJ λI a w U=>?_;refine U.dB [0] (Ez _ k t.aM (by rw[eu o6];omega)) (az .r (az .tt aP)) rfl aZ rfl λI a w U=>?_;have U:=U.nf;generalize dD:(aw eU k t.aM).2=k1 at U;have kR:k1=_:=dD.symm.trans (eu o6);refine ax λI a w U=>?_;refine U.dB [1] (FK _ k1 t.c0 (by rw[eu o7];omega)) (az .r (az .tt aP)) rfl aZ rfl λI a w U=>?_;have U:=U.nf;generalize dz:(aw eV k1 t.c0).2=k2 at U;have sv:k2=_:=dz.symm.trans (eu o7);refine ax λI a w U=>?_;refine U.dB [2] (E3 _ k2 t.calls (by rw[eu o8];omega)) (az .r (az .tt aP)) rfl aZ rfl λI a w U=>?_;have U:=U.nf;generalize fq:(aw eW k2 t.calls).2=k3 at U;have sw:k3=_:=fq.symm.trans (eu o8);refine ax λI a w U=>?_;refine U.dB [3] (E4 _ k3 t.seen (by rw[eu wG];omega) hl) (az .r (az .tt aP)) rfl aZ rfl λI a w U=>?_;have U:=U.nf;refine aK λI a w U=>?_;subst dD dz fq;refine U.ir rfl (.cons (.t rfl) .nil) rfl rfl
def sY (l:List al) (d:ay):
 Fn prog 131 [bN l,d.av] (AV.int (placeOf l d)):=by
 refine Fn.go 8 func131 ntmps131 (λW I a U=>?_);refine aN λI a w U=>?_;refine U.o (qA (az .tt aP)) λU=>?_;refine U.o (.cl (ED l (eX d) _ (λv _=>Fn.val (Fp v d)))) λU=>?_;refine an ?_;rfl
def Gw (d:ay) (l:List al):
 Fn prog 224 [d.av,AV.ptr [bN l]] (AV.bool (missing l d)):=by
 refine Fn.go 8 func224 ntmps224 (λW I a U=>?_);refine ax λI a w U=>?_;refine U.o (.cl (sY ..)) λU=>?_;refine bQ ?_;rfl
def Gx (l:List al) (ds:List ay):
 Fn prog 143 [bN l,cY ds] (AV.bool (pD l ds)):=by
 refine Fn.go 9 func143 ntmps143 (λW I a U=>?_);refine zt ?_;refine U.o (tX .tt (by first|exact bA rfl|exact bE|exact bF|exact bG)) λU=>?_;refine aL λI a w U=>?_;refine U.o (qA (az .tt aP)) λU=>?_;refine U.o (.cl (EF ds (missing l) _ (λd _=>Fn.val (Gw d l)))) λU=>?_;refine bQ ?_;rfl
def Gy (s:Server) (i:Nat):mi s i=(gx s s.waits i&&lh s i):=by
 unfold mi pE gx lh;have e:decide (placeOf s.ao (ae s.waits i).cG<0)=!decide (0<=placeOf s.ao (ae s.waits i).cG):=by rw[Bool.eq_iff_iff];simp
 rw[e];cases(jQ s (ae s.waits i).key !=0)<;>cases decide (0<=placeOf s.ao (ae s.waits i).cG)<;>simp[bne]
def Gz (x:Server) (h:eh x<=1048576):
 bm prog 199 [x.av] [] (λt:ST=>ST.plain t=x) (λt=>t.owns KK) (λt=>AV.agg t.cells):=by
 refine bm.intro 31 func199 rfl ntmps199 rfl aj (λW I a U=>?_);refine aV λI a w U=>?_;refine U.alloc rfl gq oS λb2 I a w U=>nn<|sr<|U.alloc rfl gq oS λb3 I a w U=>?_;refine lO λI a w U=>?_;refine U.fP (Fz x.cn (by unfold eh at h;omega)) (az .r aP) rfl λI sL a w U=>?_;refine U.o .fv λU=>?_;try have J0:=U.gW 2 rfl
 refine aN λI a w U=>?_;refine U.dA [] (pF x.ao (by unfold eh at h;omega)) (az .r aP) rfl aZ rfl λGA I a w sZ U=>?_;obtain⟨sB,t16⟩:=GA;replace sZ:t16.map VT.x=x.ao:=sZ;have U:=U.nf;have J1:=U.jg 3 rfl;refine ax λI a w U=>?_;refine U.dA [] (pF x.waits (by unfold eh at h;omega)) (az .r aP) rfl aZ rfl λGB I a w gy U=>?_;obtain⟨v20,t20⟩:=GB;replace gy:t20.map VT.x=x.waits:=gy;have U:=U.nf;have FG:=U.jg 4 rfl;refine ax λI a w U=>?_;refine U.fP (j3 x.bV (by unfold eh at h;omega)) (az .r aP) rfl λI GC a w U=>?_;refine U.o .fv λU=>?_;try have J2:=U.gW 5 rfl
 refine aN λI a w U=>?_;refine U.fP (j3 x.ek (by unfold eh at h;omega)) (az .r aP) rfl λI pN a w U=>?_;refine U.o .fv λU=>?_;try have J3:=U.gW 6 rfl
 refine aK λI a w U=>?_;refine U.dN (⟨x,sL,sB,v20,GC,pN,t16,t20⟩:ST) [2,3,4,5,6] rfl (.cons (.sx 0) .nil) (by show ST.plain _=x;unfold ST.plain eT;rw[sZ,gy]) rfl rfl
def GD (l:List (Server)) (h:jr l<=1048576):
 bm prog 103 [ku l] [] (λp:Value×List ST=>p.2.map ST.plain=l) (λp=>[Own.aM KK p.1 p.2]) (λp=>AV.val p.1):=by
 refine bm.intro 23 func103 rfl ntmps103 rfl aj (λW I a U=>?_);have hl:l.length<=1048576:=by unfold jr at h;omega
 refine aN λI a w U=>?_;refine U.make rfl iv gq oS rfl .tt .tt om λb7 a w U=>?_;have U:=U.jO;change St _ _ [Own.row (.slice (some ⟨b7,0,none⟩) l.length l.length) KK.server 7 (([]:List ST).map ST.cells++List.replicate (l.length-([]:List ST).length) [AV.val (.int .i64 0),AV.val (.bool false),AV.rows 2 [],AV.rows 7 [],AV.rows 7 [],AV.rows 3 [],AV.rows 3 []]),Own.many (([]:List ST).map λx=>Own.many (ST.owns KK x))] _ _ _ at U;refine aH λI a w U=>?_;refine St.lo (σ:=List ST) (4::(run 14 8 [])) ⟨λts=>[(4,AV.int (ts.length:Nat))],λts=>[Own.row (.slice (some ⟨b7,0,none⟩) l.length l.length) KK.server 7 (ts.map ST.cells++List.replicate (l.length-ts.length) [AV.val (.int .i64 0),AV.val (.bool false),AV.rows 2 [],AV.rows 7 [],AV.rows 7 [],AV.rows 3 [],AV.rows 3 []]),Own.many (ts.map λx=>Own.many (ST.owns KK x))],λts=>ts.map ST.plain=l.take ts.length/\ts.length<=l.length⟩ (λts=>l.length-ts.length) [] U ?ar ?aW;case ar=>exact⟨by simp,Nat.zero_le _⟩
 rintro ts I a w ak U;obtain⟨eg,hk⟩:=ak;dsimp only at U;refine bc λI a w U=>?_;refine cz (λab=>?_) λab=>?_
 .refine ax λI a w U=>?_;refine U.o ((by first|exact ij rH rC .tt .tt (λ_=>by first|omega|(simp only[List.length_append,List.length_map,List.length_replicate];omega))|exact gR rH rC .tt .tt (λ_=>by first|omega|(simp only[List.length_append,List.length_map,List.length_replicate];omega))|exact hP rH rC .tt .tt (λ_=>by first|omega|(simp only[List.length_append,List.length_map,List.length_replicate];omega)))) λU=>?_;refine U.o .la λU=>?_;refine U.dA [] (Gz (ae l ts.length) (by have:=lf (f:=eh) ab;unfold jr at h;omega)) (az .tt aP) rfl aZ rfl λt I a w gy U=>?_;change St _ _ ([Own.row (.slice (some ⟨b7,0,none⟩) l.length l.length) KK.server 7 (ts.map ST.cells++List.replicate (l.length-ts.length) [AV.val (.int .i64 0),AV.val (.bool false),AV.rows 2 [],AV.rows 7 [],AV.rows 7 [],AV.rows 3 [],AV.rows 3 []]),Own.many (ts.map λx=>Own.many (ST.owns KK x))]++ST.owns KK t) _ _ _ at U;refine U.o (be 0 iv gq .tt .tt rfl (λ_=>by first|omega|(simp only[List.length_append,List.length_map,List.length_replicate];omega))) λU=>?_;refine U.nh 0 gq .tt .tt rfl (by simp only[List.length_append,List.length_map,List.length_replicate];omega) rfl rfl λa w U=>?_;refine aV λI a w U=>?_;refine U.o (ba .tt .c (λ_=>by first|omega|(simp only[List.length_append,List.length_map,List.length_replicate];omega))) λU=>?_;refine aq λI a w U=>?_;have U:=St.l6 (m:=l.length-(ts++[t]).length) t U dF rfl rfl;refine U.again (ts++[t]) ?bu ?bw bh ?bx (by repeat(first|exact Env.le_rfl|refine Env.cL rfl ?_));case bu=>simp;omega
  case bw=>exact kO ⟨eg,hk⟩ ab gy
  case bx=>exact(Env.aU rfl (by exact congrArg AV.int aJ) Env.le_nil)
 refine zt ?_;refine aH λI a w U=>?_;have U:=U.l7 om;have au:=kQ ⟨eg,hk⟩ om;refine U.dN (_,ts) [0] rfl (.cons (.t rfl) .nil) au rfl rfl
def GF {H:Type} {enc:TypeId×Value->H} {W:World}:fo enc prog W Server.cells Server.Deep 197:=λn cs x h=>by
 obtain⟨xs,m,_,_,hl,hx,hf⟩:=DataW.trod_struct (show prog.underlying 197=some (.struct (prog.fieldsOf 197)) by kernel_rfl) h;rw[show prog.cellsOf 197=7 by kernel_rfl] at hl;obtain⟨y0,a0,b0⟩:=part (ft:=3) (off:=0) (s:=1) (i:=0) (cW (t:=3) aj) hx hf aj aj;obtain⟨y1,a1,b1⟩:=part (ft:=4) (off:=1) (s:=1) (i:=1) (pd (t:=4) aj) hx hf aj aj;obtain⟨y2,a2,b2⟩:=part (ft:=193) (off:=2) (s:=1) (i:=2) (ey (t:=193) (sz:=2) aj aj aZ (λ_=>rfl) Fl) hx hf aj aj;obtain⟨y3,a3,b3⟩:=part (ft:=194) (off:=3) (s:=1) (i:=3) (ey (t:=194) (sz:=7) aj aj aZ (λ_=>rfl) nN) hx hf aj aj;obtain⟨y4,a4,b4⟩:=part (ft:=194) (off:=4) (s:=1) (i:=4) (ey (t:=194) (sz:=7) aj aj aZ (λ_=>rfl) nN) hx hf aj aj;obtain⟨y5,a5,b5⟩:=part (ft:=195) (off:=5) (s:=1) (i:=5) (ey (t:=195) (sz:=3) aj aj aZ (λ_=>rfl) j5) hx hf aj aj;obtain⟨y6,a6,b6⟩:=part (ft:=195) (off:=6) (s:=1) (i:=6) (ey (t:=195) (sz:=3) aj aj aZ (λ_=>rfl) j5) hx hf aj aj;exact⟨⟨y0,y1,y2,y3,y4,y5,y6⟩,bt a0 (bt a1 (bt a2 (bt a3 (bt a4 (bt a5 (bt a6 (jh hl))))))),⟨b0,b1,b2,b3,b4,b5,b6⟩⟩
def zn {H:Type} {enc:TypeId×Value->H} {W:World}:fo enc prog W bB.cells bB.Deep 70:=λn cs x h=>by
 obtain⟨xs,m,_,_,hl,hx,hf⟩:=DataW.trod_struct (show prog.underlying 70=some (.struct (prog.fieldsOf 70)) by kernel_rfl) h;rw[show prog.cellsOf 70=5 by kernel_rfl] at hl;obtain⟨y0,a0,b0⟩:=part (ft:=3) (off:=0) (s:=1) (i:=0) (cW (t:=3) aj) hx hf aj aj;obtain⟨y1,a1,b1⟩:=part (ft:=65) (off:=1) (s:=1) (i:=1) (ey (t:=65) (sz:=7) aj aj aZ (λ_=>rfl) GF) hx hf aj aj;obtain⟨y2,a2,b2⟩:=part (ft:=66) (off:=2) (s:=1) (i:=2) (ey (t:=66) (sz:=15) aj aj aZ (λ_=>rfl) F6) hx hf aj aj;obtain⟨y3,a3,b3⟩:=part (ft:=67) (off:=3) (s:=1) (i:=3) (ey (t:=67) (sz:=13) aj aj aZ (λ_=>rfl) Gb) hx hf aj aj;obtain⟨y4,a4,b4⟩:=part (ft:=68) (off:=4) (s:=1) (i:=4) (ey (t:=68) (sz:=1) aj aj aZ (λ_=>rfl) (ey (t:=195) (sz:=3) aj aj aZ (λ_=>rfl) j5)) hx hf aj aj;exact⟨⟨y0,y1,y2,y3,y4⟩,bt a0 (bt a1 (bt a2 (bt a3 (bt a4 (jh hl))))),⟨b0,b1,b2,b3,b4⟩⟩
def GG (l:List al) (v:al) (h:l.length<=1048575) (hd:∀u∈l,u.aA.length<=1048576) (hv:v.aA.length<=1048576):
 bm prog 133 [bN l,v.av] [] (λp:Value×List VT=>p.2.map VT.x=eZ l v) (λp=>[Own.ao KK p.1 p.2]) (λp=>AV.val p.1):=by
 refine bm.intro 29 func133 rfl ntmps133 rfl aj (λW I a U=>?_);refine aK λI a w U=>?_;refine St.lo (σ:=Nat) (run 17 5 []) ⟨λk=>[(5,AV.int k)],λk=>[],λk=>k<=l.length/\∀i,i<k->c4 (ae l i) v=true⟩ (λk=>l.length-k) 0 U ?ar ?aW;case ar=>exact⟨Nat.zero_le _,λi hi=>by omega⟩
 rintro k I a w ak U;obtain⟨hk,au⟩:=ak;refine wp_seq<|wp_seq<|U.dk ?_;refine rv ?_;refine .q .T (.cl (ld ..)) ?_;refine c6 ?_;refine .q .T (.cl (ld ..)) ?_;refine .q .T (.cl (sM ..)) ?_;refine c6 ?_;refine .nil ?_;intro I a w U;refine bM ?_;refine cz (λab=>?_) λab=>?_
 .refine aK λI a w U=>?_;exact U.ag (k+1) (⟨by omega,λi h1=>by rcases Nat.lt_succ_iff_lt_or_eq.1 h1 with h|h;exact au i h;rw[h];exact ab.2⟩)
 refine zt ?_;have U:=U.m0;have U:=U.m0;have U:=U.m0;refine U.Dq 6 [([],none),([0],some (0,[23])),([],none),([],none),([1],some (1,[26])),([2],some (2,[27,26]))] aj aj rfl ?_;simp only[TD];refine c6 ?_;refine bg.wM AV.oC 0 rfl rfl (xW l om hd) (λ_ _ _ _ _ ho e=>Dg ho e) (az .r aP) ?_;refine fj ?_;refine bg.wM (AV.ni 7) 1 rfl rfl (xV v hv) (λ_ _ _ _ _ _ e=>wK e) (az .tt aP)<|bg.Dm 2 rfl rfl cQ bK rfl lU rfl rfl rfl rfl<|bg.u6 ?_;intro γ I a w U;change St _ _ [Own.aG _ _ _ (γ 23) (a.tmps.getD 23 undef),Own.aG _ _ _ (γ 26) (a.tmps.getD 26 undef),Own.is (.rows 7 [fI (a.tmps.getD 26 undef)]) (a.tmps.getD 27 undef)] _ _ _ at U;obtain⟨⟨GH,t23⟩,mj,U⟩:=U.wo (d:=23) 0 rfl;replace mj:t23.map VT.x=l:=mj;obtain⟨⟨GI,gN⟩,s0,U⟩:=U.wo (d:=26) 1 rfl;replace s0:v=GI:=s0.symm;subst s0;have U:=U.Dn (d:=27) (t:=26) 2 rfl rfl rfl;change St _ _ [Own.gone,Own.gone,Own.gone,Own.ao KK GH t23,Own.aA KK gN v.aA] _ _ _ at U;have U:=U.C0 3 rfl;have J4:t23.length=l.length:=by rw[<-mj,List.length_map]
 show wpList _ _ _ _ _ _;refine U.dA [5] (EZ _ (t23.map VT.cells) (VT.cells ⟨v,gN⟩) k nT nT (λr hr=>by obtain⟨u,_,rfl⟩:=List.mem_map.1 hr;rfl) rfl) (az .tt (az .tt (az .tt aP))) rfl aZ rfl λpN I a w _ U=>?_;change St _ _ [Own.gone,Own.gone,Own.gone,Own.gone,Own.aA KK gN v.aA,Own.row pN 54 7 ((t23.map VT.cells).take k++VT.cells ⟨v,gN⟩::(t23.map VT.cells).drop k),Own.many (t23.map λx=>Own.many (VT.owns KK x))] _ _ _ at U;rw[show(t23.map VT.cells).take k++VT.cells ⟨v,gN⟩::(t23.map VT.cells).drop k=(t23.take k++(⟨v,gN⟩:VT)::t23.drop k).map VT.cells from by rw[List.map_append,List.map_cons,List.map_take,List.map_drop]] at U;refine aq λI a w U=>?_;have U:=U.wP 5;have U:=U.wO (f:=λx=>Own.many (VT.owns KK x)) 6 1 (⟨v,gN⟩:VT) rfl rfl;have U:=U.drop 2;have U:=U.DL (L:=(t23++[(⟨v,gN⟩:VT)]).map λx=>Own.many (VT.owns KK x)) (L':=(t23.take k++(⟨v,gN⟩:VT)::t23.drop k).map λx=>Own.many (VT.owns KK x)) 1 rfl (by rw[List.map_append];exact DM (f:=λx=>Own.many (VT.owns KK x)) (y:=(⟨v,gN⟩:VT)) (k:=k));have U:=U.whole;refine U.dN (pN,t23.take k++(⟨v,gN⟩:VT)::t23.drop k) [0] rfl (.cons (.t rfl) .nil) ?_ rfl rfl;show(t23.take k++(⟨v,gN⟩:VT)::t23.drop k).map VT.x=eZ l v;rw[<-xQ hk au (λhl=>by rcases ab with h|h;omega;exact h),<-mj,List.map_append,List.map_cons,List.map_take,List.map_drop]
def pM (l:List al):
 Fn prog 81 [bN l] (AV.bool (cJ l)):=by
 refine Fn.go 35 func81 ntmps81 (λW I a U=>?_);have hle:=U.cB (t:=0) rfl;refine bc λI a w U=>?_;refine St.lo (σ:=Nat) (run 3 2 (run 25 7 [])) ⟨λk=>[(7,AV.int k)],λk=>[],λk=>k<=l.length/\∀i,i<k->(cA eo c4 l) i=true⟩ (λk=>l.length-k) 0 U ?ar ?aW;case ar=>exact⟨by simp,λi hi=>by omega⟩
 rintro k I a w ak U;obtain⟨hk,au⟩:=ak;refine aq λI a w U=>?_;refine cz (λab=>?_) λab=>?_
 .refine aN λI a w U=>?_;refine U.alloc rfl bK dP λb4 I a w U=>?_;refine aH λI a w U=>?_;obtain⟨I,U⟩:=U.fb 0 4;refine U.dk ?_;refine c6 ?_;refine .o (.c1 (w9 ..)) ?_;refine wb ?_;refine .q .T2 (.cl (ld ..)) ?_;refine c6 ?_;refine .q .T2 (.cl (ld ..)) ?_;refine .q .T2 (.cl (sM ..)) ?_;refine gE ?_;refine .nil ?_;intro I a w U;refine bM ?_;refine U.cd (λah=>?_) λah=>?_
  .rw[show da (ae l ((k:Int)-1).toNat).cG (ae l k).cG=c4 (ae l ((k:Int)-1).toNat) (ae l k) from rfl,jE] at ah;replace ah:=nt ah;refine an ?_;exact aQ (by unfold cJ;rw[cF (f:=(cA eo c4 l)) ab ah];simp)
  rw[show da (ae l ((k:Int)-1).toNat).cG (ae l k).cG=c4 (ae l ((k:Int)-1).toNat) (ae l k) from rfl,jE] at ah;replace ah:=nf ah;refine aH λI a w U=>?_;have U:=U.drop 0;exact U.ag (k+1) (⟨by omega,cT au ah⟩)
 refine zt ?_;refine bc λI a w U=>?_;refine U.rt ?_;exact aQ (by unfold cJ;rw[cD au om,Bool.and_true];simp;try omega)
def Ge (s:Server):pD s.ao s.bV=bC s.bV.length (iL s):=by
 unfold pD hasB;by_cases h:0<=dI (missing s.ao) s.bV
 .obtain⟨k,hk,hm⟩:=se h;have:iL s k=false:=by
   simp only[missing,decide_eq_true_eq] at hm;simp only[iL,decide_eq_false_iff_not];omega
  rw[cF hk this];simp[h]
 have au:=sf (p:=missing s.ao) (l:=s.bV) om;have:bC s.bV.length (iL s)=true:=by
  rw[fF];intro i hi;have:=au i hi;simp only[missing,decide_eq_false_iff_not] at this;simp only[iL,decide_eq_true_eq];omega
 rw[this];simp[h]
def Gf (l:List (Int)) (h:nM l<=1048576):
 fG prog 264 [iZ l] KK.int 1 (l.map gD):=by
 refine fG.intro 22 func264 rfl ntmps264 rfl aj (λW I a U=>?_);have hl:l.length<=1048576:=by unfold nM at h;omega
 refine aN λI a w U=>?_;refine U.make rfl oW bS B5 rfl .tt .tt om λb7 a w U=>?_;change St _ _ ([]++[Own.row (.slice (some ⟨b7,0,none⟩) l.length l.length) 3 1 (List.replicate l.length [AV.val (.int .i64 0)])]) _ _ _ at U;rw[<-sF (f:=gD)] at U;refine aH λI a w U=>?_;refine St.lo (σ:=Nat) (4::(run 13 8 [])) ⟨λk=>[(4,AV.int k)],λk=>[Own.row (.slice (some ⟨b7,0,none⟩) l.length l.length) 3 1 (partOf (gD) [AV.val (.int .i64 0)] l k)],λk=>k<=l.length⟩ (λk=>l.length-k) 0 U ?ar ?aW;case ar=>exact Nat.zero_le _
 rintro k I a w ak U;have hk:k<=l.length:=ak;have fZ:(partOf (gD) [AV.val (.int .i64 0)] l k).length=l.length:=sE hk;dsimp only at U;rw[<-fZ] at U;refine bc λI a w U=>?_;refine cz (λab=>?_) λab=>?_
 .refine fH λI a w U=>?_;refine U.o (qn oW bS .tt .tt (λ_=>by omega)) λU=>?_;refine U.uD (j:=0) 0 bS .tt .tt (by first|exact bA rfl|exact bE|exact bF|exact bG) rfl (by exact sH ab) rfl rfl λa w U=>?_;refine aK λI a w U=>?_;change St _ _ [Own.row (.slice (some ⟨b7,0,none⟩) (partOf (gD) [AV.val (.int .i64 0)] l k).length (partOf (gD) [AV.val (.int .i64 0)] l k).length) 3 1 ((partOf (gD) [AV.val (.int .i64 0)] l k).set k (gD (ae l k)))] _ _ _ at U;rw[fZ,sI ab] at U;exact U.ag (k+1) (ab)
 refine zt ?_;refine aH λI a w U=>?_;rw[fZ,sG om] at U;exact U.oH (r:=2) 0 rfl rfl rfl rfl
def Gg (x:cu) (h:eL x<=1048576):
 bm prog 200 [x.av] [] (λt:WT=>WT.plain t=x) (λt=>t.owns KK) (λt=>AV.agg t.cells):=by
 refine bm.intro 52 func200 rfl ntmps200 rfl aj (λW I a U=>?_);refine aV λI a w U=>?_;refine U.alloc rfl eb rA λb2 I a w U=>nn<|sr<|U.alloc rfl eb rA λb3 I a w U=>?_;refine BT λI a w U=>?_;refine U.o (.c1 (pz ..)) λU=>U.o .fv λU=>U.lz 1 lT .tt .tt rfl rfl rfl λa w U=>?_;refine lO λI a w U=>?_;refine U.fP (j3 x.aA (by unfold eL at h;omega)) (az .r aP) rfl λI Gh a w U=>?_;refine U.o .fv λU=>?_;try have JT:=U.gW 2 rfl
 refine vX λI a w U=>?_;refine U.dA [] (pF x.ao (by unfold eL at h;omega)) (az .r aP) rfl aZ rfl λGi I a w sV U=>?_;obtain⟨Gj,t41⟩:=Gi;replace sV:t41.map VT.x=x.ao:=sV;have U:=U.nf;have JU:=U.jg 3 rfl;refine ax λI a w U=>?_;refine U.dA [] (pF x.waits (by unfold eL at h;omega)) (az .r aP) rfl aZ rfl λGk I a w sW U=>?_;obtain⟨Gl,t45⟩:=Gk;replace sW:t45.map VT.x=x.waits:=sW;have U:=U.nf;have JV:=U.jg 4 rfl;refine ax λI a w U=>?_;refine U.fP (j3 x.bV (by unfold eL at h;omega)) (az .r aP) rfl λI Gm a w U=>?_;refine U.o .fv λU=>?_;try have JW:=U.gW 5 rfl
 refine aK λI a w U=>?_;refine U.dN (⟨x,Gh,Gj,Gl,Gm,t41,t45⟩:WT) [2,3,4,5] rfl (.cons (.sx 0) .nil) (by show WT.plain _=x;unfold WT.plain eT;rw[sV,sW]) rfl rfl
def Gn (l:List (cu)) (h:jq l<=1048576):
 bm prog 104 [iY l] [] (λp:Value×List WT=>p.2.map WT.plain=l) (λp=>[Own.words KK p.1 p.2]) (λp=>AV.val p.1):=by
 refine bm.intro 23 func104 rfl ntmps104 rfl aj (λW I a U=>?_);have hl:l.length<=1048576:=by unfold jq at h;omega
 refine aN λI a w U=>?_;refine U.make rfl eH eb rA rfl .tt .tt om λb7 a w U=>?_;have U:=U.jO;change St _ _ [Own.row (.slice (some ⟨b7,0,none⟩) l.length l.length) KK.word 15 (([]:List WT).map WT.cells++List.replicate (l.length-([]:List WT).length) [AV.val (.int .i64 0),AV.val (.int .i64 0),AV.val (.int .i64 0),AV.val (.int .i64 0),AV.val (.int .i64 0),AV.val (.int .i64 0),AV.val (.int .i64 0),AV.val (.int .i64 0),AV.val (.bool false),AV.rows 3 [],AV.val (.int .i64 0),AV.val (.int .i64 0),AV.rows 7 [],AV.rows 7 [],AV.rows 3 []]),Own.many (([]:List WT).map λx=>Own.many (WT.owns KK x))] _ _ _ at U;refine aH λI a w U=>?_;refine St.lo (σ:=List WT) (4::(run 14 8 [])) ⟨λts=>[(4,AV.int (ts.length:Nat))],λts=>[Own.row (.slice (some ⟨b7,0,none⟩) l.length l.length) KK.word 15 (ts.map WT.cells++List.replicate (l.length-ts.length) [AV.val (.int .i64 0),AV.val (.int .i64 0),AV.val (.int .i64 0),AV.val (.int .i64 0),AV.val (.int .i64 0),AV.val (.int .i64 0),AV.val (.int .i64 0),AV.val (.int .i64 0),AV.val (.bool false),AV.rows 3 [],AV.val (.int .i64 0),AV.val (.int .i64 0),AV.rows 7 [],AV.rows 7 [],AV.rows 3 []]),Own.many (ts.map λx=>Own.many (WT.owns KK x))],λts=>ts.map WT.plain=l.take ts.length/\ts.length<=l.length⟩ (λts=>l.length-ts.length) [] U ?ar ?aW;case ar=>exact⟨by simp,Nat.zero_le _⟩
 rintro ts I a w ak U;obtain⟨eg,hk⟩:=ak;dsimp only at U;refine bc λI a w U=>?_;refine cz (λab=>?_) λab=>?_
 .refine ax λI a w U=>?_;refine U.o ((by first|exact ij rI rD .tt .tt (λ_=>by first|omega|(simp only[List.length_append,List.length_map,List.length_replicate];omega))|exact gR rI rD .tt .tt (λ_=>by first|omega|(simp only[List.length_append,List.length_map,List.length_replicate];omega))|exact hP rI rD .tt .tt (λ_=>by first|omega|(simp only[List.length_append,List.length_map,List.length_replicate];omega)))) λU=>?_;refine U.o .la λU=>?_;refine U.dA [] (Gg (ae l ts.length) (by have:=lf (f:=eL) ab;unfold jq at h;omega)) (az .tt aP) rfl aZ rfl λt I a w gy U=>?_;change St _ _ ([Own.row (.slice (some ⟨b7,0,none⟩) l.length l.length) KK.word 15 (ts.map WT.cells++List.replicate (l.length-ts.length) [AV.val (.int .i64 0),AV.val (.int .i64 0),AV.val (.int .i64 0),AV.val (.int .i64 0),AV.val (.int .i64 0),AV.val (.int .i64 0),AV.val (.int .i64 0),AV.val (.int .i64 0),AV.val (.bool false),AV.rows 3 [],AV.val (.int .i64 0),AV.val (.int .i64 0),AV.rows 7 [],AV.rows 7 [],AV.rows 3 []]),Own.many (ts.map λx=>Own.many (WT.owns KK x))]++WT.owns KK t) _ _ _ at U;refine U.o (be 0 eH eb .tt .tt rfl (λ_=>by first|omega|(simp only[List.length_append,List.length_map,List.length_replicate];omega))) λU=>?_;refine U.nh 0 eb .tt .tt rfl (by simp only[List.length_append,List.length_map,List.length_replicate];omega) rfl rfl λa w U=>?_;refine aV λI a w U=>?_;refine U.o (ba .tt .c (λ_=>by first|omega|(simp only[List.length_append,List.length_map,List.length_replicate];omega))) λU=>?_;refine aq λI a w U=>?_;have U:=St.l6 (m:=l.length-(ts++[t]).length) t U dF rfl rfl;refine U.again (ts++[t]) ?bu ?bw bh ?bx (by repeat(first|exact Env.le_rfl|refine Env.cL rfl ?_));case bu=>simp;omega
  case bw=>exact kO ⟨eg,hk⟩ ab gy
  case bx=>exact(Env.aU rfl (by exact congrArg AV.int aJ) Env.le_nil)
 refine zt ?_;refine aH λI a w U=>?_;have U:=U.l7 om;have au:=kQ ⟨eg,hk⟩ om;refine U.dN (_,ts) [0] rfl (.cons (.t rfl) .nil) au rfl rfl
def Gp (x:Call) (h:dT x<=1048576):
 bm prog 201 [x.av] [] (λt:CT=>CT.plain t=x) (λt=>t.owns KK) (λt=>AV.agg t.cells):=by
 refine bm.intro 46 func201 rfl ntmps201 rfl aj (λW I a U=>?_);refine aV λI a w U=>?_;refine U.alloc rfl dO m7 λb2 I a w U=>nn<|sr<|U.alloc rfl dO m7 λb3 I a w U=>?_;refine rq λI a w U=>?_;refine U.fP (Gf x.keys (by unfold dT at h;omega)) (az .r aP) rfl λI Gq a w U=>?_;refine U.o .fv λU=>?_;try have JX:=U.gW 2 rfl
 refine gX λI a w U=>?_;refine U.fP (j3 x.ctx (by unfold dT at h;omega)) (az .r aP) rfl λI sJ a w U=>?_;refine U.o .fv λU=>?_;try have FA:=U.gW 3 rfl
 refine BS λI a w U=>?_;refine U.o (.c1 (pz ..)) λU=>U.o .fv λU=>U.lz 1 lT .tt .tt rfl rfl rfl λa w U=>?_;refine aL λI a w U=>?_;refine U.dA [] (FE x.aG (by unfold dT at h;omega)) (az .r aP) rfl aZ rfl λGr I a w sX U=>?_;obtain⟨Gs,t39⟩:=Gr;replace sX:t39.map AT.x=x.aG:=sX;have U:=U.nf;have JY:=U.jg 4 rfl;refine ax λI a w U=>?_;refine U.fP (j3 x.aR (by unfold dT at h;omega)) (az .r aP) rfl λI Gt a w U=>?_;refine U.o .fv λU=>?_;try have JZ:=U.gW 5 rfl
 refine aK λI a w U=>?_;refine U.dN (⟨x,Gq,sJ,Gs,Gt,t39⟩:CT) [2,3,4,5] rfl (.cons (.sx 0) .nil) (by show CT.plain _=x;unfold CT.plain;rw[sX]) rfl rfl
def Gu (l:List (Call)) (h:iJ l<=1048576):
 bm prog 105 [ja l] [] (λp:Value×List CT=>p.2.map CT.plain=l) (λp=>[Own.calls KK p.1 p.2]) (λp=>AV.val p.1):=by
 refine bm.intro 23 func105 rfl ntmps105 rfl aj (λW I a U=>?_);have hl:l.length<=1048576:=by unfold iJ at h;omega
 refine aN λI a w U=>?_;refine U.make rfl eS dO m7 rfl .tt .tt om λb7 a w U=>?_;have U:=U.jO;change St _ _ [Own.row (.slice (some ⟨b7,0,none⟩) l.length l.length) KK.call 13 (([]:List CT).map CT.cells++List.replicate (l.length-([]:List CT).length) [AV.val (.int .i64 0),AV.val (.int .i64 0),AV.val (.int .i64 0),AV.rows 1 [],AV.val (.int .i64 0),AV.rows 3 [],AV.val (.int .i64 0),AV.val (.int .i64 0),AV.val (.bool false),AV.val (.int .i64 0),AV.val (.int .i64 0),AV.rows 9 [],AV.rows 3 []]),Own.many (([]:List CT).map λx=>Own.many (CT.owns KK x))] _ _ _ at U;refine aH λI a w U=>?_;refine St.lo (σ:=List CT) (4::(run 14 8 [])) ⟨λts=>[(4,AV.int (ts.length:Nat))],λts=>[Own.row (.slice (some ⟨b7,0,none⟩) l.length l.length) KK.call 13 (ts.map CT.cells++List.replicate (l.length-ts.length) [AV.val (.int .i64 0),AV.val (.int .i64 0),AV.val (.int .i64 0),AV.rows 1 [],AV.val (.int .i64 0),AV.rows 3 [],AV.val (.int .i64 0),AV.val (.int .i64 0),AV.val (.bool false),AV.val (.int .i64 0),AV.val (.int .i64 0),AV.rows 9 [],AV.rows 3 []]),Own.many (ts.map λx=>Own.many (CT.owns KK x))],λts=>ts.map CT.plain=l.take ts.length/\ts.length<=l.length⟩ (λts=>l.length-ts.length) [] U ?ar ?aW;case ar=>exact⟨by simp,Nat.zero_le _⟩
 rintro ts I a w ak U;obtain⟨eg,hk⟩:=ak;dsimp only at U;refine bc λI a w U=>?_;refine cz (λab=>?_) λab=>?_
 .refine ax λI a w U=>?_;refine U.o ((by first|exact ij rJ rE .tt .tt (λ_=>by first|omega|(simp only[List.length_append,List.length_map,List.length_replicate];omega))|exact gR rJ rE .tt .tt (λ_=>by first|omega|(simp only[List.length_append,List.length_map,List.length_replicate];omega))|exact hP rJ rE .tt .tt (λ_=>by first|omega|(simp only[List.length_append,List.length_map,List.length_replicate];omega)))) λU=>?_;refine U.o .la λU=>?_;refine U.dA [] (Gp (ae l ts.length) (by have:=lf (f:=dT) ab;unfold iJ at h;omega)) (az .tt aP) rfl aZ rfl λt I a w gy U=>?_;change St _ _ ([Own.row (.slice (some ⟨b7,0,none⟩) l.length l.length) KK.call 13 (ts.map CT.cells++List.replicate (l.length-ts.length) [AV.val (.int .i64 0),AV.val (.int .i64 0),AV.val (.int .i64 0),AV.rows 1 [],AV.val (.int .i64 0),AV.rows 3 [],AV.val (.int .i64 0),AV.val (.int .i64 0),AV.val (.bool false),AV.val (.int .i64 0),AV.val (.int .i64 0),AV.rows 9 [],AV.rows 3 []]),Own.many (ts.map λx=>Own.many (CT.owns KK x))]++CT.owns KK t) _ _ _ at U;refine U.o (be 0 eS dO .tt .tt rfl (λ_=>by first|omega|(simp only[List.length_append,List.length_map,List.length_replicate];omega))) λU=>?_;refine U.nh 0 dO .tt .tt rfl (by simp only[List.length_append,List.length_map,List.length_replicate];omega) rfl rfl λa w U=>?_;refine aV λI a w U=>?_;refine U.o (ba .tt .c (λ_=>by first|omega|(simp only[List.length_append,List.length_map,List.length_replicate];omega))) λU=>?_;refine aq λI a w U=>?_;have U:=St.l6 (m:=l.length-(ts++[t]).length) t U dF rfl rfl;refine U.again (ts++[t]) ?bu ?bw bh ?bx (by repeat(first|exact Env.le_rfl|refine Env.cL rfl ?_));case bu=>simp;omega
  case bw=>exact kO ⟨eg,hk⟩ ab gy
  case bx=>exact(Env.aU rfl (by exact congrArg AV.int aJ) Env.le_nil)
 refine zt ?_;refine aH λI a w U=>?_;have U:=U.l7 om;have au:=kQ ⟨eg,hk⟩ om;refine U.dN (_,ts) [0] rfl (.cons (.t rfl) .nil) au rfl rfl
end Go.Proofs.YtldbakcpcfdlaaaGreat
