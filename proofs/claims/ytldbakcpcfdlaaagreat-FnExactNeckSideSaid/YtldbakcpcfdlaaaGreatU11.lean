/- Part 11: contracts of functions, plain facts. -/
import Derived.Test.YtldbakcpcfdlaaaGreatU10
set_option linter.all false
set_option maxRecDepth 100000
set_option maxHeartbeats 4000000
namespace Go.Proofs.YtldbakcpcfdlaaaGreat
open Go Go.RowKit Tryz
attribute [local irreducible] wpList Code.wp Ok
def Ey (v:Value) (k:Nat) (l:List cv) (hb:(ix k l).2<=1152921504606846976):
 c5 prog 208 [AV.val v,AV.int (k:Nat)] [Own.cn KK v l] [Own.cn KK v (ix k l).1] (AV.int ((ix k l).2:Nat)):=by
 refine c5.intro 27 func208 rfl ntmps208 rfl aj (λW I a U=>?_);have hl:k+l.length<=(ix k l).2:=iC (f:=lW) (c:=λ_=>2) (λ_ _=>rfl) (λ_=>by decide);refine aH λI a w U=>?_;refine St.lo (σ:=Nat) (1::(run 21 5 [])) ⟨λi=>[(5,AV.int i),(1,AV.int ((aw lW k (l.take i)).2:Nat))],λi=>[Own.row v KK.slot 2 ((cw lW k l i).map cv.cells)],λi=>i<=l.length⟩ (λi=>l.length-i) 0 U ?ar ?aW;case ar=>exact Nat.zero_le _
 rintro i I a w ak U;have iD:i<=l.length:=ak;dsimp only at U;refine aL λI a w U=>?_;refine U.o (iR 0 m8 .tt rfl) λU=>?_;refine aq λI a w U=>?_;refine U.cd (λab=>?_) λab=>?_
 .simp only[B,List.length_map,dR] at ab;refine wp_skip<|bM<|wp_seq<|wp_block<|wp_seq ?_;obtain⟨t,hx⟩:=get_some ab;obtain⟨m,hm,jP,U⟩:=U.rV hx;generalize bZ:(aw lW k (l.take i)).2=kk at U;obtain⟨dS,de⟩:=g7 (f:=lW) (c:=λ_=>2) (λ_ _=>rfl) hx bZ;change _<=(ix k l).2 at de;refine aN λI a w U=>?_;refine U.o (be 0 m8 jL .tt .tt rfl (λ_=>by first|omega|(simp only[List.length_set,List.length_map];omega))) λU=>?_;refine U.o .fv λU=>?_;refine U.bT (j:=0) 0 bS .tt .tt (by first|exact bA rfl|exact bE|exact bF|exact bG) rfl bk rfl rfl λa w U=>?_;refine aV λI a w U=>?_;refine U.o (ba .tt .c (λ_=>by first|omega|(simp only[List.length_set,List.length_map];omega))) λU=>?_;rw[show((kk:Nat):Int)+1=((kk+1:Nat):Int) from rfl] at U;refine ax λI a w U=>?_;refine U.o (be 0 m8 jL .tt .tt rfl (λ_=>by first|omega|(simp only[List.length_set,List.length_map];omega))) λU=>?_;refine U.o .fv λU=>?_;refine U.bT (j:=1) 0 bS .tt .tt (by first|exact bA rfl|exact bE|exact bF|exact bG) rfl bk rfl rfl λa w U=>?_;refine aV λI a w U=>?_;refine U.o (ba .tt .c (λ_=>by first|omega|(simp only[List.length_set,List.length_map];omega))) λU=>?_;rw[show((kk+1:Nat):Int)+1=((kk+2:Nat):Int) from rfl] at U;refine aL λI a w U=>?_;refine U.o (ba .tt .c (λ_=>by first|omega|(simp only[List.length_set,List.length_map];omega))) λU=>?_;refine aq λI a w U=>?_;have U:=U.rW hx hm bZ rfl;refine U.again (i+1) ?bu ?bw bh ?bx (by repeat(first|exact Env.le_rfl|refine Env.cL rfl ?_));case bu=>omega
  case bw=>show i+1<=_;omega
  case bx=>exact(Env.aU rfl bh (Env.aU rfl (by exact congrArg AV.int (by rw[dS];(try rfl))) Env.le_nil))
 simp only[B,List.length_map,dR] at ab;refine zt ?_;refine aH λI a w U=>?_;have U:=U.rX om;refine U.ir rfl (.cons (.t rfl) .nil) rfl ?_;rw[List.take_of_length_le om];rfl
def Ez (v:Value) (k:Nat) (l:List ST) (hb:(aw eU k l).2<=1152921504606846976):
 c5 prog 112 [AV.val v,AV.int (k:Nat)] [Own.aM KK v l] [Own.aM KK v (aw eU k l).1] (AV.int ((aw eU k l).2:Nat)):=by
 refine c5.intro 64 func112 rfl ntmps112 rfl aj (λW I a U=>?_);have hl:k+l.length<=(aw eU k l).2:=iC (f:=eU) (c:=λt=>iz t.plain) (o6) (λt=>by simp only[iz,ST.plain];omega);have U:=U.parts;refine aH λI a w U=>?_;refine St.lo (σ:=Nat) (1::(run 58 5 [])) ⟨λi=>[(5,AV.int i),(1,AV.int ((aw eU k (l.take i)).2:Nat))],λi=>[Own.row v KK.server 7 ((cw eU k l i).map ST.cells),Own.many ((cw eU k l i).map λx=>Own.many (ST.owns KK x))],λi=>i<=l.length⟩ (λi=>l.length-i) 0 U ?ar ?aW;case ar=>exact Nat.zero_le _
 rintro i I a w ak U;have iD:i<=l.length:=ak;dsimp only at U;refine aL λI a w U=>?_;refine U.o (iR 0 iv .tt rfl) λU=>?_;refine aq λI a w U=>?_;refine U.cd (λab=>?_) λab=>?_
 .simp only[B,List.length_map,dR] at ab;refine wp_skip<|bM<|wp_seq<|wp_block<|wp_seq ?_;obtain⟨t,hx⟩:=get_some ab;obtain⟨m,hm,jP,U⟩:=U.l3 hx;generalize bZ:(aw eU k (l.take i)).2=kk at U;obtain⟨dS,de⟩:=g7 (f:=eU) (c:=λt=>iz t.plain) (o6) hx bZ;simp only[iz,ST.plain] at de;change _<=(aw eU k l).2 at de;dsimp only[ST.owns,List.cons_append,List.nil_append] at U;refine aN λI a w U=>?_;refine U.o (be 0 iv gq .tt .tt rfl (λ_=>by first|omega|(simp only[List.length_set,List.length_map];omega))) λU=>?_;refine U.o .fv λU=>?_;refine U.bT (j:=0) 0 bS .tt .tt (by first|exact bA rfl|exact bE|exact bF|exact bG) rfl bk rfl rfl λa w U=>?_;refine aV λI a w U=>?_;refine U.o (ba .tt .c (λ_=>by first|omega|(simp only[List.length_set,List.length_map];omega))) λU=>?_;rw[show((kk:Nat):Int)+1=((kk+1:Nat):Int) from rfl] at U;refine ax λI a w U=>?_;refine U.o (oc .tt .c (λ_=>by first|omega|(simp only[List.length_set,List.length_map];omega))) λU=>?_;refine U.o .oM λU=>?_;refine U.o (be 0 iv gq .tt .tt rfl (λ_=>by first|omega|(simp only[List.length_set,List.length_map];omega))) λU=>?_;refine U.o .fv λU=>?_;refine U.bT (j:=1) 0 oP .tt .tt (by first|exact bA rfl|exact bE|exact bF|exact bG) rfl bk rfl rfl λa w U=>?_;refine aV λI a w U=>?_;refine U.o (ba .tt .c (λ_=>by first|omega|(simp only[List.length_set,List.length_map];omega))) λU=>?_;rw[show((kk+1:Nat):Int)+1=((kk+2:Nat):Int) from rfl] at U;refine aN λI a w U=>?_;refine U.o (be 0 iv gq .tt .tt rfl (λ_=>by first|omega|(simp only[List.length_set,List.length_map];omega))) λU=>?_;refine U.o .fv λU=>?_;refine U.o (fk (j:=2) 0 Ck .tt rfl (λ_=>fm bk) rfl rfl rfl) λU=>?_;refine U.m λU=>?_;refine U.dB [2] (Ey _ (kk+2) t.x.cn (by rw[rR];omega)) (az .r (az .tt aP)) rfl aZ rfl λI a w U=>?_;have U:=U.nf;generalize dD:(ix (kk+2) t.x.cn).2=k1 at U;have kR:k1=_:=dD.symm.trans (rR);refine aN λI a w U=>?_;refine U.o (be 0 iv gq .tt .tt rfl (λ_=>by first|omega|(simp only[List.length_set,List.length_map];omega))) λU=>?_;refine U.o .fv λU=>?_;refine U.o (fk (j:=3) 0 oQ .tt rfl (λ_=>fm bk) rfl rfl rfl) λU=>?_;refine U.m λU=>?_;refine U.dB [3] (nk _ (k1) t.vs (by rw[jf];omega)) (az .r (az .tt aP)) rfl aZ rfl λI a w U=>?_;have U:=U.nf;generalize dz:(et (k1) t.vs).2=k2 at U;have sv:k2=_:=dz.symm.trans (jf);refine aN λI a w U=>?_;refine U.o (be 0 iv gq .tt .tt rfl (λ_=>by first|omega|(simp only[List.length_set,List.length_map];omega))) λU=>?_;refine U.o .fv λU=>?_;refine U.o (fk (j:=4) 0 oQ .tt rfl (λ_=>fm bk) rfl rfl rfl) λU=>?_;refine U.m λU=>?_;refine U.dB [4] (nk _ (k2) t.ws (by rw[jf];omega)) (az .r (az .tt aP)) rfl aZ rfl λI a w U=>?_;have U:=U.nf;generalize fq:(et (k2) t.ws).2=k3 at U;have sw:k3=_:=fq.symm.trans (jf);refine aN λI a w U=>?_;refine U.o (be 0 iv gq .tt .tt rfl (λ_=>by first|omega|(simp only[List.length_set,List.length_map];omega))) λU=>?_;refine U.o .fv λU=>?_;refine U.o (fk (j:=5) 0 gp .tt rfl (λ_=>fm bk) rfl rfl rfl) λU=>?_;refine U.m λU=>?_;refine U.dB [5] (ji _ (k3) t.x.bV (by rw[c7];omega)) (az .r (az .tt aP)) rfl aZ rfl λI a w U=>?_;have U:=U.nf;generalize j0:(ct (k3) t.x.bV).2=k4 at U;have xG:k4=_:=j0.symm.trans (c7);refine aN λI a w U=>?_;refine U.o (be 0 iv gq .tt .tt rfl (λ_=>by first|omega|(simp only[List.length_set,List.length_map];omega))) λU=>?_;refine U.o .fv λU=>?_;refine U.o (fk (j:=6) 0 gp .tt rfl (λ_=>fm bk) rfl rfl rfl) λU=>?_;refine U.m λU=>?_;refine U.dB [6] (ji _ (k4) t.x.ek (by rw[c7];omega)) (az .r (az .tt aP)) rfl aZ rfl λI a w U=>?_;have U:=U.nf;generalize xH:(ct (k4) t.x.ek).2=k5 at U;have JP:k5=_:=xH.symm.trans (c7);refine aL λI a w U=>?_;refine U.o (ba .tt .c (λ_=>by first|omega|(simp only[List.length_set,List.length_map];omega))) λU=>?_;refine aq λI a w U=>?_;subst dD;subst dz;subst fq;subst j0;subst xH;have U:=U.l4 hx hm bZ rfl rfl;refine U.again (i+1) ?bu ?bw bh ?bx (by repeat(first|exact Env.le_rfl|refine Env.cL rfl ?_));case bu=>omega
  case bw=>show i+1<=_;omega
  case bx=>exact(Env.aU rfl bh (Env.aU rfl (by exact congrArg AV.int (by rw[dS];(try rfl))) Env.le_nil))
 simp only[B,List.length_map,dR] at ab;refine zt ?_;refine aH λI a w U=>?_;have U:=U.l5 om;refine U.ir rfl (.cons (.t rfl) .nil) rfl ?_;rw[List.take_of_length_le om];rfl
def xI (n:Int):
 Fn prog 181 [AV.int n] (AV.int (ff n)):=by
 refine Fn.go 8 func181 ntmps181 (λW I a U=>?_);refine aL λI a w U=>?_;refine U.o (.c1 (pe ..)) λU=>?_;refine aq λI a w U=>?_;refine cz (λab=>?_) λab=>?_
 .refine an ?_;exact aT (by simp[ff,ab])
 refine aV λI a w U=>?_;refine U.o (ob .tt .c (λ_=>by simp[il,aI] at ab;omega)) λU=>?_;refine an ?_;exact aT (by simp[ff,ab])
def xJ (n:Int):
 Fn prog 176 [AV.int n] (AV.bool (aI n 10 11)):=by
 refine Fn.go 5 func176 ntmps176 (λW I a U=>?_);refine aL λI a w U=>?_;refine U.o (.cl (dH ..)) λU=>?_;refine an ?_;rfl
def EB (m:cu):
 Fn prog 89 [m.av] (AV.bool (lI m)):=by
 refine Fn.go 76 func89 ntmps89 (λW I a U=>?_);refine ax λI a w U=>?_;refine U.o (.cl (dH ..)) λU=>?_;refine aN λI a w U=>?_;refine U.q .T (.cl (nm ..)) λU=>?_;refine aN λI a w U=>?_;refine U.q .F2 (.cl (xJ ..)) λU=>?_;refine bJ λI a w U=>?_;refine U.q .T (.cl (nm ..)) λU=>?_;refine aN λI a w U=>?_;refine U.q .F2 (.cl (xJ ..)) λU=>?_;refine bJ λI a w U=>?_;refine U.q .T (.cl (dH ..)) λU=>?_;refine ax λI a w U=>?_;refine U.q .T (.cl (kS ..)) λU=>?_;refine ax λI a w U=>?_;refine U.q .T (.cl (w5 ..)) λU=>?_;refine ax λI a w U=>?_;refine U.q .T (.cl (dH ..)) λU=>?_;refine ax λI a w U=>?_;refine U.q .T (.cl (nr ..)) λU=>?_;refine ax λI a w U=>?_;refine U.q .T (.cl (dH ..)) λU=>?_;refine ax λI a w U=>?_;refine U.q .T (.cl (dH ..)) λU=>?_;refine ax λI a w U=>?_;refine U.q .T (.cl (nu ..)) λU=>?_;refine ax λI a w U=>?_;refine U.q .T (.cl (nu ..)) λU=>?_;refine ax λI a w U=>?_;refine U.q .T (.cl (sd ..)) λU=>?_;refine bQ ?_;rfl
def EC (n:Int):
 Fn prog 222 [AV.int n] (AV.int (im n)):=by
 refine Fn.go 9 func222 ntmps222 (λW I a U=>?_);refine aL λI a w U=>?_;refine U.o (.c1 (pf ..)) λU=>?_;refine aq λI a w U=>?_;refine cz (λab=>?_) λab=>?_
 .refine an ?_;exact aT (by simp[im,ab])
 refine aV λI a w U=>?_;refine U.o (lu .tt .c (λ_=>by simp[bW,aI] at ab;omega)) λU=>?_;refine U.o (ob .tt .c (λ_=>by simp[bW,aI] at ab;omega)) λU=>?_;refine an ?_;exact aT (by simp[im,ab])
def ED (l:List (al)) (p:(al)->Bool) (fv:AV) (hf:∀x:al,x∈l->ga prog fv [x.av] (AV.bool (p x))):
 Fn prog 218 [bN l,fv] (AV.int (dI p l)):=by
 refine Fn.go 19 func218 ntmps218 (λW I a U=>?_);have hle:=U.cB (t:=0) rfl;refine bc λI a w U=>?_;refine St.lo (σ:=Nat) (run 2 4 (run 11 8 [])) ⟨λk=>[(8,AV.int k)],λk=>[],λk=>k<=l.length/\∀i,i<k->p (ae l i)=false⟩ (λk=>l.length-k) 0 U ?ar ?aW;case ar=>exact⟨Nat.zero_le _,λi hi=>by omega⟩
 rintro k I a w ak U;obtain⟨hk,au⟩:=ak;refine aq λI a w U=>?_;refine cz (λab=>?_) λab=>?_
 .refine gX λI a w U=>?_;refine U.o (mL (hf _ (ez ab)) .tt (az .tt aP)) λU=>?_;refine zt ?_;refine U.cd (λah=>?_) λah=>?_
  .refine bQ ?_;exact aT (jj ab au ah).symm
  refine aH λI a w U=>?_;exact U.ag (k+1) (⟨ab,λi h1=>by rcases Nat.lt_succ_iff_lt_or_eq.1 h1 with h|h;exact au i h;rw[h];exact ah⟩)
 refine zt ?_;refine an ?_;exact aT (iE om au).symm
def EE (l:List (ay)) (p:(ay)->Bool) (fv:AV) (hf:∀x:ay,x∈l->ga prog fv [x.av] (AV.bool (p x))):
 Fn prog 282 [cY l,fv] (AV.int (dI p l)):=by
 refine Fn.go 19 func282 ntmps282 (λW I a U=>?_);have hle:=U.cB (t:=0) rfl;refine bc λI a w U=>?_;refine St.lo (σ:=Nat) (run 2 4 (run 11 8 [])) ⟨λk=>[(8,AV.int k)],λk=>[],λk=>k<=l.length/\∀i,i<k->p (ae l i)=false⟩ (λk=>l.length-k) 0 U ?ar ?aW;case ar=>exact⟨Nat.zero_le _,λi hi=>by omega⟩
 rintro k I a w ak U;obtain⟨hk,au⟩:=ak;refine aq λI a w U=>?_;refine cz (λab=>?_) λab=>?_
 .refine gX λI a w U=>?_;refine U.o (mL (hf _ (ez ab)) .tt (az .tt aP)) λU=>?_;refine zt ?_;refine U.cd (λah=>?_) λah=>?_
  .refine bQ ?_;exact aT (jj ab au ah).symm
  refine aH λI a w U=>?_;exact U.ag (k+1) (⟨ab,λi h1=>by rcases Nat.lt_succ_iff_lt_or_eq.1 h1 with h|h;exact au i h;rw[h];exact ah⟩)
 refine zt ?_;refine an ?_;exact aT (iE om au).symm
def EF (l:List (ay)) (p:(ay)->Bool) (fv:AV) (hf:∀x:ay,x∈l->ga prog fv [x.av] (AV.bool (p x))):
 Fn prog 223 [cY l,fv] (AV.bool (hasB p l)):=by
 refine Fn.go 9 func223 ntmps223 (λW I a U=>?_);refine aN λI a w U=>?_;refine U.o (.cl (EE _ _ _ hf)) λU=>?_;refine bQ ?_;rfl
def xK (s:Server) (key:Int) (hk:bW key=true) (hl:s.cn.length=3):
 Fn prog 141 [s.av,AV.int key] (AV.int (jQ s key)):=by
 refine Fn.go 12 func141 ntmps141 (λW I a U=>?_);have hr:=xd hk;refine aH λI a w U=>?_;refine U.dk ?_;refine gE ?_;refine .o (.c1 (EC ..)) ?_;refine iu ?_;refine .nil ?_;intro I a w U;refine zt ?_;refine U.rt ?_;rfl
def EG (s:Server) (v:al):
 Fn prog 142 [s.av,v.av] (AV.bool (ff v.aE.site !=ff s.site)):=by
 refine Fn.go 13 func142 ntmps142 (λW I a U=>?_);refine aK λI a w U=>?_;refine U.dk ?_;refine gE ?_;refine .o (.c1 (xI ..)) ?_;refine fj ?_;refine .o (.c1 (xI ..)) ?_;refine fj ?_;refine .nil ?_;intro I a w U;refine zt ?_;refine U.rt ?_;rfl
def j1 (l:List Int) (k:Nat):Int:=if k=0 then-1 else ae l (k-1)
def EH (l:List Int) (k:Nat):j1 l (k+1)=ae l k:=by simp[j1]
def EI {n:Int}:bW n=true↔0<=n/\n<=5:=by simp[bW,aI]
def xL {l:List Int} {k:Nat} (h:∀i,i<k->cA bW gu l i=true):-1<=j1 l k/\j1 l k<=5:=by
 unfold j1;split
 .omega
 rename_i hk;have:=h (k-1) om;unfold cA at this;rw[Bool.and_eq_true,EI] at this;omega
def xM {l:List Int} {k:Nat} (h:∀i,i<k->cA bW gu l i=true):aI (ae l k) (j1 l k+1) 5=cA bW gu l k:=by
 have:=xL h;unfold cA j1 at*;by_cases hk:k=0
 .subst hk;simp[bW,aI]
 simp only[hk,if_false] at this⊢;rw[Bool.eq_iff_iff];simp[bW,aI,gu];omega
def dK (l:List Call) (k:Nat) (x:Int):Int:=(((l.take k).filter λd=>d.bl==x).length:Nat)
def EJ (l:List Call):dK l 0=λ_=>0:=by funext x;simp[dK]
def nE {l:List Call} {k:Nat} (h:k<l.length) (x:Int):dK l (k+1) x=if(ae l k).bl=x then dK l k x+1 else dK l k x:=by
 unfold dK;rw[mN h,List.filter_append,List.length_append];by_cases hx:(ae l k).bl=x<;>simp[hx]
def EK {l:List Call} {k:Nat} (h:k<l.length):(λy=>if y=(ae l k).bl then dK l k (ae l k).bl+1 else dK l k y)=dK l (k+1):=by
 funext y;rw[nE h];by_cases hy:y=(ae l k).bl
 .subst hy;simp
 rw[if_neg hy,if_neg λh=>hy h.symm]
def sA (l:List Call) (k:Nat) (x:Int):0<=dK l k x/\dK l k x<=k:=by
 unfold dK;have:=List.length_filter_le (λd:Call=>d.bl==x) (l.take k);have h2:(l.take k).length<=k:=by simp;omega
 omega
def nF (l:List Call) (time:Int) (i:Nat):Bool:=eK (ae l i) time&&(decide (i=0)||decide ((ae l (i-1)).cO<(ae l i).cO))
def xN (l:List Call) (time:Int) (k:Nat):(!eK (ae l k) time||(decide (0<(k:Int))&&decide ((ae l k).cO<=(ae l ((k:Int)-1).toNat).cO)))=!nF l time k:=by
 have e:=jE (λd=>eK d time) (λa b=>decide (a.cO<b.cO)) l k;have e2:decide ((ae l k).cO<=(ae l ((k:Int)-1).toNat).cO)=!decide ((ae l ((k:Int)-1).toNat).cO<(ae l k).cO):=by rw[Bool.eq_iff_iff];simp
 rw[e2,e];rfl
def xO (l:List Call) (time:Int) (k:Nat):((!eK (ae l k) time||(decide (0<(k:Int))&&decide ((ae l k).cO<=(ae l ((k:Int)-1).toNat).cO)))||((ae l k).num !=dK l (k+1) (ae l k).bl))=!(nF l time k&&((ae l k).num==dK l (k+1) (ae l k).bl)):=by
 rw[xN];simp[bne]
def hJ (w:bB):Bool:=!(!aI w.time 0 99999||((w.aM.length:Int) !=4)||decide (60<(w.c0.length:Int))||((w.seen.length:Int) !=2))
def nG (m:cu):Bool:=!lI m
def nH (l:List ay):Bool:=!cP l
def xP {α:Type} [Inhabited α] (p:α->Bool) (l:List α):(!hasB p l)=bC l.length λi=>!p (ae l i):=by
 rw[Bool.eq_iff_iff,fF];constructor
 .intro h i hi;simp only[Bool.not_eq_true'] at h⊢;cases hp:p (ae l i)
  .rfl
  rw[sk (ez hi) hp] at h;cases h
 intro h;simp only[Bool.not_eq_true'];cases hh:hasB p l
 .rfl
 obtain⟨x,hx,hp⟩:=xh hh;obtain⟨k,hk,rfl⟩:=kT hx;have:=h k hk;rw[hp] at this;cases this
def eZ:List al->al->List al
 |[],v=>[v]
 |x::r,v=>if c4 x v then x::eZ r v else v::x::r
def xQ:∀{l:List al} {v:al} {n:Nat},n<=l.length->(∀i,i<n->c4 (ae l i) v=true)->(n<l.length->c4 (ae l n) v=false)->l.take n++v::l.drop n=eZ l v
 |[],v,n,h,_,_=>by have:n=0:=by simpa using h
                   subst this;rfl
 |x::r,v,0,_,_,h2=>by
  have:=h2 aJ;have e:c4 x v=false:=this;simp[eZ,e]
 |x::r,v,n+1,h,h1,h2=>by
  have e:c4 x v=true:=h1 0 om;have ih:=xQ (l:=r) (v:=v) (n:=n) (by simpa using h) (λi hi=>h1 (i+1) om) (λhl=>h2 (by simpa using hl));simp[eZ,e,ih]
def xR:∀{l:List al} {v x:al},x∈eZ l v↔x=v\/x∈l
 |[],v,x=>by simp[eZ]
 |y::r,v,x=>by
  unfold eZ;split
  .rw[List.mem_cons,xR (l:=r),List.mem_cons];constructor
   .rintro(h|h|h)<;>simp[h]
   rintro(h|h|h)<;>simp[h]
  rw[List.mem_cons]
def EL (l:List al) (v:al):(eZ l v).length=l.length+1:=by
 induction l with
 |nil=>rfl
 |cons x r ih=>unfold eZ;split<;>simp[ih]
def cM (out:List al) (v:al):List al:=if placeOf out v.cG<0 then eZ out v else out
def EM {out:List al} {v x:al} (h:x∈cM out v):x=v\/x∈out:=by
 unfold cM at h;split at h
 .exact xR.1 h
 exact Or.inr h
def EN (out:List al) (v:al):(cM out v).length<=out.length+1:=by
 unfold cM;split
 .rw[EL];exact Nat.le_refl _
 omega
def xS:∀{l out:List al} {x:al},x∈l.foldl cM out->x∈l\/x∈out
 |[],_,_,h=>Or.inr h
 |v::r,out,x,h=>by
  rcases xS (l:=r) h with h1|h1
  .exact Or.inl (by simp[h1])
  rcases EM h1 with rfl|h2
  .exact Or.inl aJ
  exact Or.inr h2
def nI:∀(l out:List al),(l.foldl cM out).length<=out.length+l.length
 |[],_=>by simp
 |v::r,out=>by
  have:=nI r (cM out v);have h2:=EN out v;simp at this⊢;omega
def xT:∀{l:List al} {v:al},(∀x∈l,c4 x v=true)->eZ l v=l++[v]
 |[],_,_=>rfl
 |x::r,v,h=>by
  unfold eZ;rw[h x aJ,if_pos rfl,xT λy hy=>h y (by simp[hy])];rfl
def mf {l out:List al} {k:Nat} (h:k<l.length):(l.take (k+1)).foldl cM out=cM ((l.take k).foldl cM out) (ae l k):=by
 rw[mN h,List.foldl_append];rfl
def j2 (w:bB) (s:Int):List al:=(ae w.aM (2*s+1).toNat).ao.foldl cM (ae w.aM (2*s).toNat).ao
def fS (w:bB) (s:Int) (j:Nat):List al:=(List.range j).foldl (λout (i:Nat)=>(ae w.aM (2*s+i).toNat).ao.foldl cM out) []
def nJ (w:bB) (s:Int) (j:Nat):fS w s (j+1)=(ae w.aM (2*s+j).toNat).ao.foldl cM (fS w s j):=by
 unfold fS;rw[List.range_succ,List.foldl_append];rfl
def EO {q:Call} {time:Int} (h:hF q time=true):1<=q.cO/\q.cO<=time:=by
 simp only[hF,Bool.and_eq_true] at h;have:=h.1.1.2;simp[aI] at this;exact this
def EP {q:Call} {time:Int} (h:hF q time=true):q.aG.length<=3/\q.aR.length<=6:=by
 simp only[hF,iF,Bool.and_eq_true] at h;have hk:gF q=true:=h.1.1.1.1.1.1.2;have hd:cP q.aR=true:=h.1.1.1.2;have hg:g9 q=true:=h.2.1.1;have h3:q.keys.length<=3:=by
  unfold gF at hk;rw[Bool.and_eq_true] at hk;have:=hk.2;simp[aI] at this;omega
 have pr:gv q.keys=true:=by unfold gF at hk;rw[Bool.and_eq_true] at hk;exact hk.1
 have:=xn pr hg;exact⟨by omega,si hd⟩
def ER (q:Call):
 Fn prog 226 [q.av] (AV.bool (gF q)):=by
 refine Fn.go 40 func226 ntmps226 (λW I a U=>?_);have lens:q.keys.length<=9223372036854775807/\q.aG.length<=9223372036854775807/\q.aR.length<=9223372036854775807:=⟨U.ln 0 3,U.ln 0 11,U.ln 0 12⟩;refine lP λI a w U=>?_;refine St.lo (σ:=Nat) (run 2 2 (5::(run 11 9 []))) ⟨λk=>[(9,AV.int k),(3,AV.int (j1 q.keys k))],λk=>[],λk=>k<=q.keys.length/\∀i,i<k->cA bW gu q.keys i=true⟩ (λk=>q.keys.length-k) 0 U ?ar ?aW;case ar=>exact⟨Nat.zero_le _,λi hi=>by omega⟩
 rintro k I a w ak U;obtain⟨hk,au⟩:=ak;refine aq λI a w U=>?_;refine cz (λab=>?_) λab=>?_
 .refine bJ λI a w U=>?_;refine U.o (ba .tt .c (λ_=>by have:=xL au;omega)) λU=>?_;refine U.o (.cl (dG ..)) λU=>?_;refine aq λI a w U=>?_;refine U.cd (λah=>?_) λah=>?_
  .rw[xM au] at ah;replace ah:=nt ah;refine an ?_;exact aQ (by unfold gF gv;rw[cF (f:=cA bW gu q.keys) ab ah];rfl)
  rw[xM au] at ah;replace ah:=nf ah;refine bc λI a w U=>?_;refine U.again (k+1) ?bu ?bw bh ?bx (by repeat(first|exact Env.le_rfl|refine Env.cL rfl ?_));case bu=>omega
  case bw=>exact⟨by omega,cT au ah⟩
  case bx=>exact(Env.aU rfl bh (Env.aU rfl (by exact congrArg AV.int (EH _ _).symm) Env.le_nil))
 refine zt ?_;refine v3 λI a w U=>?_;refine U.q .T2 (.cl (dG ..)) λU=>?_;refine oO ?_;exact aQ (by unfold gF gv;rw[cD au om];rfl)
def ES {n:Nat} (h:(20:Int)<n):decide (n<=20)=false:=by simp;omega
def xU (l:List Call) (time:Int) (k:Nat):(!eK (ae l k) time||(decide (0<(k:Int))&&decide ((ae l k).cO<=(ae l ((k:Int)-1).toNat).cO)))=!nF l time k:=xN l time k
def ET {x:bB} (h:hJ x=true):0<=x.time/\x.time<=99999:=by
 simp only[hJ,Bool.not_eq_true',Bool.or_eq_false_iff] at h;have:=h.1.1.1;simp[aI] at this;exact this
def nK (l:List (List ay)):(!hasB nH l)=bC l.length λi=>cP (ae l i):=by
 rw[xP];exact mT rfl λi _=>by simp[nH]
def nL (l:List cu):(!hasB nG l)=bC l.length λi=>lI (ae l i):=by
 rw[xP];exact mT rfl λi _=>by simp[nG]
def EU (l:List ay):
 Fn prog 71 [cY l] (AV.bool (nH l)):=by
 refine Fn.go 6 func71 ntmps71 (λW I a U=>?_);refine aL λI a w U=>?_;refine U.o (.cl (nq ..)) λU=>?_;refine bQ ?_;rfl
def pB {l out:List al} (h1:∀v∈l,v.aA.length<=6) (h2:∀v∈out,v.aA.length<=6):∀v∈l.foldl cM out,v.aA.length<=6:=λv hv=>(xS hv).elim (h1 v) (h2 v)
def EV (l:List ay) (h:l.length<=1048576):
 fG prog 138 [cY l] 125 3 (l.map ay.cells):=by
 refine fG.intro 5 func138 rfl ntmps138 rfl aj (λW I a U=>?_);refine aL λI a w U=>?_;have U:=U.qg (sz:=3) 125;refine U.append 0 rfl iw ep rfl .c .r rfl dF λv4 a w U=>?_;refine aq λI a w U=>?_;exact U.oH (r:=2) 0 rfl rfl rfl rfl
def xV (v:al) (h:v.aA.length<=1048576):
 bm prog 159 [v.av] [] (λt:VT=>VT.x t=v) (λt=>t.owns KK) (λt=>AV.agg t.cells):=by
 refine bm.intro 8 func159 rfl ntmps159 rfl aj (λW I a U=>?_);refine sr<|U.box rfl .tt λb1 I a w U=>U.alloc rfl bK dP λb2 I a w U=>?_;refine aL λI a w U=>?_;refine U.fP (EV v.aA h) (az .r aP) rfl λI v5 a w U=>?_;refine U.o .fv λU=>?_;try have JQ:=U.gW 2 rfl
 refine aK λI a w U=>?_;refine U.dN (⟨v,v5⟩:VT) [2] rfl (.cons (.sx 1) .nil) rfl rfl rfl
def xW (l:List al) (h:l.length<=1048576) (hd:∀v∈l,v.aA.length<=1048576):
 bm prog 130 [bN l] [] (λp:Value×List VT=>p.2.map VT.x=l) (λp=>[Own.ao KK p.1 p.2]) (λp=>AV.val p.1):=by
 refine bm.intro 19 func130 rfl ntmps130 rfl aj (λW I a U=>?_);have U:=U.qg (sz:=7) KK.bs;have U:=U.jO;refine cK λI a w U=>?_;refine St.lo (σ:=List VT×Value) (3::(5::(run 10 8 []))) ⟨λ⟨ts,v⟩=>[(8,AV.int (ts.length:Nat)),(3,AV.val v)],λ⟨ts,v⟩=>[Own.row v KK.bs 7 (ts.map VT.cells),Own.many (ts.map λx=>Own.many (VT.owns KK x))],λ⟨ts,v⟩=>ts.map VT.x=l.take ts.length/\ts.length<=l.length⟩ (λ⟨ts,v⟩=>l.length-ts.length) ([],.slice none 0 0) U ?ar ?aW;case ar=>exact⟨by simp,Nat.zero_le _⟩
 rintro⟨ts,v⟩ I a w ak U;obtain⟨eg,hk⟩:=ak;dsimp only at U;refine aq λI a w U=>?_;refine cz (λab=>?_) λab=>?_
 .refine aL λI a w U=>?_;refine U.alloc rfl bK dP λb5 I a w U=>?_;refine aq λI a w U=>?_;obtain⟨I,U⟩:=U.fb 2 5;refine aL λI a w U=>?_;refine U.dA [] (xV (ae l ts.length) (hd _ (ez ab))) (az .tt aP) rfl aZ rfl λt I a w EW U=>?_;change St _ _ ([Own.row v KK.bs 7 (ts.map VT.cells),Own.many (ts.map λx=>Own.many (VT.owns KK x))]++Own.gone::VT.owns KK t) _ _ _ at U;refine U.o (.li [VT.cells t] lU (.u .nil)) λU=>?_;refine U.ap 0 λsB a w U=>?_;refine aK λI a w U=>?_;rw[Dr] at U;have U:=U.wO 3 1 t rfl rfl;have U:=U.drop 2;refine U.again (ts++[t],sB) ?bu ?bw bh ?bx (by repeat(first|exact Env.le_rfl|refine Env.cL rfl ?_));case bu=>simp;omega
  case bw=>exact kO ⟨eg,hk⟩ ab EW
  case bx=>exact(Env.aU rfl (by exact congrArg AV.int aJ) (Env.aU rfl bh Env.le_nil))
 refine zt ?_;refine aH λI a w U=>?_;have U:=U.whole;have au:=kQ ⟨eg,hk⟩ om;refine U.dN (v,ts) [0] rfl (.cons (.t rfl) .nil) au rfl rfl
def EX (l:List (Call)):
 Fn prog 110 [ja l,ja l] (AV.bool true):=by
 refine Fn.go 27 func110 ntmps110 (λW I a U=>?_);have hle:=U.cB (t:=0) rfl;refine fQ λI a w U=>?_;refine U.cd (λab=>?_) λab=>?_
 .exfalso;simp at ab;skip
 refine aq λI a w U=>?_;refine St.lo (σ:=Nat) (run 2 4 (run 16 11 [])) ⟨λk=>[(5,AV.int k)],λk=>[],λk=>k<=l.length⟩ (λk=>l.length-k) 0 U ?ar ?aW;case ar=>exact Nat.zero_le _
 rintro k I a w ak U;have hk:k<=l.length:=ak;refine bc λI a w U=>?_;refine cz (λah=>?_) λah=>?_
 .refine zt ?_;refine U.dk ?_;refine jd ?_;refine .o (.c2 (Ex ..)) ?_;refine c6 ?_;refine .nil ?_;intro I a w U;refine bM ?_;refine U.cd (λai=>?_) λai=>?_
  .exfalso;simp at ai;skip
  refine aK λI a w U=>?_;exact U.ag (k+1) (ah)
 refine zt ?_;refine an ?_;rfl
def EY (l:List (List ay)):
 Fn prog 111 [jb l,jb l] (AV.bool true):=by
 refine Fn.go 27 func111 ntmps111 (λW I a U=>?_);have hle:=U.cB (t:=0) rfl;refine fQ λI a w U=>?_;refine U.cd (λab=>?_) λab=>?_
 .exfalso;simp at ab;skip
 refine aq λI a w U=>?_;refine St.lo (σ:=Nat) (run 2 4 (run 16 11 [])) ⟨λk=>[(5,AV.int k)],λk=>[],λk=>k<=l.length⟩ (λk=>l.length-k) 0 U ?ar ?aW;case ar=>exact Nat.zero_le _
 rintro k I a w ak U;have hk:k<=l.length:=ak;refine bc λI a w U=>?_;refine cz (λah=>?_) λah=>?_
 .refine zt ?_;refine U.dk ?_;refine jd ?_;refine .o (.cl (jZ ..)) ?_;refine c6 ?_;refine .nil ?_;intro I a w U;refine bM ?_;refine U.cd (λai=>?_) λai=>?_
  .exfalso;simp at ai;skip
  refine aK λI a w U=>?_;exact U.ag (k+1) (ah)
 refine zt ?_;refine an ?_;rfl
def EZ (v:Value) (l:List (List AV)) (x:List AV) (i:Nat) (hi:i<=l.length) (hl:l.length<=1048576) (iH:∀r∈l,r.length=7) (hx:x.length=7):
 bm prog 220 [AV.val v,AV.int i,AV.rows 7 [x]] [Own.row v 54 7 l] (λ_:Value=>True) (λu=>[Own.row u 54 7 (l.take i++x::l.drop i)]) AV.val:=by
 refine bm.intro 95 func220 rfl ntmps220 rfl aj (λW I a U=>?_);obtain⟨q,cap,rfl,lA⟩:=U.BE 0 rfl;refine aN λI a w U=>?_;refine U.o (Bg cQ bK .tt .tt ⟨by omega,by omega⟩ lA) λU=>?_;refine aV λI a w U=>?_;refine U.o (pY cQ .tt) λU=>?_;rw[show(([x]:List (List AV)).length:Int)=1 from rfl] at U;refine aK λI a w U=>?_;refine U.cd (λab=>?_) λab=>?_
 .exfalso;simp at ab;skip
 refine fQ λI a w U=>?_;refine cz (λah=>?_) λah=>?_
 .refine aL λI a w U=>?_;refine U.append 0 rfl cQ bK rfl .tt .tt rfl (by simp only[List.length_singleton];omega) λE0 a w U=>?_;refine aq λI a w U=>?_;rw[show l++[x]=l.take i++x::l.drop i from by rw[show i=l.length by omega];simp] at U;refine U.dN E0 [0] rfl (.cons (.t rfl) .nil) trivial rfl rfl
 refine ax λI a w U=>?_;refine U.o (Bi cQ .tt) λU=>?_;refine aq λI a w U=>?_;refine cz (λai=>?_) λai=>?_
 .refine zt ?_;have aY:l≠[]:=by intro e;rw[e] at hi ah;simp at hi ah;omega
  obtain⟨b,lB,he,ui,mH,r4,U⟩:=U.vh 0 rfl aY;simp only[Value.slice.injEq] at he;obtain⟨rfl,_,rfl⟩:=he;have hA:(l.take i).flatten.length=i*7:=by rw[eO λr hr=>iH r (List.mem_of_mem_take hr),List.length_take,Nat.min_eq_left hi]
  have hB:(l.drop i).flatten.length=(l.length-i)*7:=by rw[eO λr hr=>iH r (List.mem_of_mem_drop hr),List.length_drop]
  rw[show l.flatten=(l.take i).flatten++(l.drop i).flatten by rw[<-List.flatten_append,List.take_append_drop],List.map_append] at U;have iI:([x]:List (List AV)).flatten.length=7:=by simpa using hx
  have hlen:(l.take i++x::l.drop i).length=l.length+1:=by simp;omega
  have sC:∀r∈l.take i++x::l.drop i,r.length=7:=λr hr=>(List.mem_append.1 hr).elim (λh=>iH r (List.mem_of_mem_take h)) λh=>(List.mem_cons.1 h).elim (λe=>e▸hx) λh=>iH r (List.mem_of_mem_drop h);have sD:(l.take i++x::l.drop i).flatten.map some=(l.take i).flatten.map some++([x]:List (List AV)).flatten.map some++(l.drop i).flatten.map some:=by simp
  refine aL λI a w U=>?_;refine U.o (vj (hi:=i) cQ bK .tt .tt rfl om om) λU=>?_;refine bJ λI a w U=>?_;refine U.Bk (dZ:=l.length+1-i) (xs:=(l.take i).flatten) 0 cQ lV bK rfl aZ .tt .tt om om rfl (by rw[List.drop_zero,List.append_assoc];exact jI _ (List.length_map _)) hA om om om rfl λ{gb E1 a w} n6 vp U=>?_;refine aN λI a w U=>?_;refine U.o (kz (lo:=i) cQ bK .tt .tt rfl om om) λU=>?_;refine U.m λU=>?_;refine U.vn 1 cQ bK .tt .tt rfl aJ (by simp only[List.length_singleton];omega) (by simp only[List.length_singleton,List.length_append,List.length_map,List.length_replicate,hA];omega) rfl λU=>?_;refine zt ?_;refine U.dt 8 ?_;simp only[TD];refine iu ?_;refine .o (kz (lo:=i+1) cQ bK .tt .tt om om om) ?_;refine fj ?_;refine .o (kz (lo:=i) cQ bK .tt .tt rfl om om) ?_;refine .nil ?_;intro I a w U;refine U.vo (xs:=(l.drop i).flatten) 1 0 cQ bK .tt .tt rfl rfl (by rw[List.append_assoc,rb _ (by simp only[List.length_map,hA];omega)];exact jI _ (List.length_map _)) (by rw[hB,Nat.min_eq_left om]) (by rw[oD (by simp only[List.length_map,List.length_append,List.length_replicate,iI,hA];omega)];simp only[List.length_append,List.length_map,List.length_replicate,hA,hB];omega) rfl λU=>?_;rw[BG (by simp only[List.length_map,hA];omega) (by simp only[List.length_map,iI];omega) (by simp only[List.length_map,List.length_replicate,iI,hB];omega)] at U;have U:=U.vi (l:=l.take i++x::l.drop i) (cap:=E1) 1 rfl (by simp only[List.length_append,List.length_map,List.length_drop,List.length_replicate,hA,hB,iI];omega) sC om om om (by rw[sD,hlen];exact jI _ (by simp only[List.length_append,List.length_map,hA,hB,iI];omega));rw[show i+(l.length+1-i)=(l.take i++x::l.drop i).length by omega] at U;refine aH λI a w U=>?_;refine U.dN _ [1] rfl (.cons (.t rfl) .nil) trivial rfl rfl
 refine zt ?_;have aY:l≠[]:=by intro e;rw[e] at hi ah;simp at hi ah;omega
 obtain⟨b,lB,he,ui,mH,r4,U⟩:=U.vh 0 rfl aY;simp only[Value.slice.injEq] at he;obtain⟨rfl,_,rfl⟩:=he;have hA:(l.take i).flatten.length=i*7:=by rw[eO λr hr=>iH r (List.mem_of_mem_take hr),List.length_take,Nat.min_eq_left hi]
 have hB:(l.drop i).flatten.length=(l.length-i)*7:=by rw[eO λr hr=>iH r (List.mem_of_mem_drop hr),List.length_drop]
 rw[show l.flatten=(l.take i).flatten++(l.drop i).flatten by rw[<-List.flatten_append,List.take_append_drop],List.map_append] at U;have iI:([x]:List (List AV)).flatten.length=7:=by simpa using hx
 have hlen:(l.take i++x::l.drop i).length=l.length+1:=by simp;omega
 have sC:∀r∈l.take i++x::l.drop i,r.length=7:=λr hr=>(List.mem_append.1 hr).elim (λh=>iH r (List.mem_of_mem_take h)) λh=>(List.mem_cons.1 h).elim (λe=>e▸hx) λh=>iH r (List.mem_of_mem_drop h);have sD:(l.take i++x::l.drop i).flatten.map some=(l.take i).flatten.map some++([x]:List (List AV)).flatten.map some++(l.drop i).flatten.map some:=by simp
 refine ax λI a w U=>?_;refine U.o (vj (hi:=l.length+1) cQ bK .tt .tt om om om) λU=>?_;refine fH λI a w U=>?_;refine U.o (kz (lo:=i+1) cQ bK .tt .tt om om om) λU=>?_;refine U.overlaps (tR:=4) 0 func280 rfl aj aj aj cQ bK aZ .tt aJ .tt rfl rfl λU=>?_;refine aq λI a w U=>?_;refine U.cd (λaF=>?_) λaF=>?_
 .refine wp_seq ?_;refine U.dt 8 ?_;simp only[TD];refine iu ?_;refine .o (kz (lo:=i+1) cQ bK .tt .tt om om om) ?_;refine fj ?_;refine .o (kz (lo:=i) cQ bK .tt .tt rfl om om) ?_;refine .nil ?_;intro I a w U;refine U.vo (xs:=(l.drop i).flatten) 0 0 cQ bK .tt .tt rfl rfl (by rw[List.append_assoc,rb _ (by simp only[List.length_map,hA];omega)];exact jI _ (List.length_map _)) (by rw[hB];congr 1;omega) (by simp only[List.length_append,List.length_map,List.length_replicate,hA,hB];omega) rfl λU=>?_;refine aL λI a w U=>?_;refine U.o (kz (lo:=i) cQ bK .tt .tt rfl om om) λU=>?_;refine U.m λU=>?_;refine U.vn 0 cQ bK .tt .tt rfl aJ (by simp only[List.length_singleton];omega) (by rw[oD (by simp only[List.length_map,List.length_append,List.length_replicate,hA,hB];omega)];simp only[List.length_singleton,List.length_append,List.length_map,List.length_replicate,hA,hB];omega) rfl λU=>?_;rw[BF (by simp only[List.length_map,hA];omega) (by simp only[List.length_map,iI];omega) (by simp only[List.length_map,List.length_replicate,iI];omega)] at U;have U:=U.vi (l:=l.take i++x::l.drop i) (cap:=cap) 0 rfl (by simp only[List.length_append,List.length_map,List.length_drop,List.length_replicate,hA,hB,iI];omega) sC om om om (by rw[sD,hlen];exact jI _ (by simp only[List.length_append,List.length_map,hA,hB,iI];omega));rw[show l.length+1=(l.take i++x::l.drop i).length by omega] at U;refine aH λI a w U=>?_;refine U.dN _ [0] rfl (.cons (.t rfl) .nil) trivial rfl rfl
 exfalso;simp at aF;skip
end Go.Proofs.YtldbakcpcfdlaaaGreat
