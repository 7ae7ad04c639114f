/- Part 14: contracts of functions, plain facts. -/
import Derived.Test.YtldbakcpcfdlaaaGreatU10
set_option linter.all false
set_option maxRecDepth 100000
set_option maxHeartbeats 4000000
namespace Go.Proofs.YtldbakcpcfdlaaaGreat
open Go Go.RowKit Tryz
attribute [local irreducible] wpList Code.wp Ok
def FK (v:Value) (k:Nat) (l:List WT) (hb:(aw eV k l).2<=1152921504606846976):
 c5 prog 113 [AV.val v,AV.int (k:Nat)] [Own.words KK v l] [Own.words KK v (aw eV k l).1] (AV.int ((aw eV k l).2:Nat)):=by
 refine c5.intro 122 func113 rfl ntmps113 rfl aj (λW I a U=>?_);have hl:k+l.length<=(aw eV k l).2:=iC (f:=eV) (c:=λt=>iA t.plain) (o7) (λt=>by simp only[iA,WT.plain];omega);have U:=U.parts;refine aH λI a w U=>?_;refine St.lo (σ:=Nat) (1::(run 116 5 [])) ⟨λi=>[(5,AV.int i),(1,AV.int ((aw eV k (l.take i)).2:Nat))],λi=>[Own.row v KK.word 15 ((cw eV k l i).map WT.cells),Own.many ((cw eV k l i).map λx=>Own.many (WT.owns KK x))],λi=>i<=l.length⟩ (λi=>l.length-i) 0 U ?ar ?aW;case ar=>exact Nat.zero_le _
 rintro i I a w ak U;have iD:i<=l.length:=ak;dsimp only at U;refine aL λI a w U=>?_;refine U.o (iR 0 eH .tt rfl) λU=>?_;refine aq λI a w U=>?_;refine U.cd (λab=>?_) λab=>?_
 .simp only[B,List.length_map,dR] at ab;refine wp_skip<|bM<|wp_seq<|wp_block<|wp_seq ?_;obtain⟨t,hx⟩:=get_some ab;obtain⟨m,hm,jP,U⟩:=U.l3 hx;generalize bZ:(aw eV k (l.take i)).2=kk at U;obtain⟨dS,de⟩:=g7 (f:=eV) (c:=λt=>iA t.plain) (o7) hx bZ;simp only[iA,WT.plain] at de;change _<=(aw eV k l).2 at de;dsimp only[WT.owns,List.cons_append,List.nil_append] at U;refine aN λI a w U=>?_;refine U.o (be 0 eH eb .tt .tt rfl (λ_=>by first|omega|(simp only[List.length_set,List.length_map];omega))) λU=>?_;refine U.o .fv λU=>?_;refine U.bT (j:=0) 0 bS .tt .tt (by first|exact bA rfl|exact bE|exact bF|exact bG) rfl bk rfl rfl λa w U=>?_;refine aV λI a w U=>?_;refine U.o (ba .tt .c (λ_=>by first|omega|(simp only[List.length_set,List.length_map];omega))) λU=>?_;rw[show((kk:Nat):Int)+1=((kk+1:Nat):Int) from rfl] at U;refine ax λI a w U=>?_;refine U.o (be 0 eH eb .tt .tt rfl (λ_=>by first|omega|(simp only[List.length_set,List.length_map];omega))) λU=>?_;refine U.o .fv λU=>?_;refine U.bT (j:=1) 0 bS .tt .tt (by first|exact bA rfl|exact bE|exact bF|exact bG) rfl bk rfl rfl λa w U=>?_;refine aV λI a w U=>?_;refine U.o (ba .tt .c (λ_=>by first|omega|(simp only[List.length_set,List.length_map];omega))) λU=>?_;rw[show((kk+1:Nat):Int)+1=((kk+2:Nat):Int) from rfl] at U;refine ax λI a w U=>?_;refine U.o (be 0 eH eb .tt .tt rfl (λ_=>by first|omega|(simp only[List.length_set,List.length_map];omega))) λU=>?_;refine U.o .fv λU=>?_;refine U.bT (j:=2) 0 bS .tt .tt (by first|exact bA rfl|exact bE|exact bF|exact bG) rfl bk rfl rfl λa w U=>?_;refine aV λI a w U=>?_;refine U.o (ba .tt .c (λ_=>by first|omega|(simp only[List.length_set,List.length_map];omega))) λU=>?_;rw[show((kk+2:Nat):Int)+1=((kk+3:Nat):Int) from rfl] at U;refine ax λI a w U=>?_;refine U.o (be 0 eH eb .tt .tt rfl (λ_=>by first|omega|(simp only[List.length_set,List.length_map];omega))) λU=>?_;refine U.o .fv λU=>?_;refine U.bT (j:=3) 0 bS .tt .tt (by first|exact bA rfl|exact bE|exact bF|exact bG) rfl bk rfl rfl λa w U=>?_;refine aV λI a w U=>?_;refine U.o (ba .tt .c (λ_=>by first|omega|(simp only[List.length_set,List.length_map];omega))) λU=>?_;rw[show((kk+3:Nat):Int)+1=((kk+4:Nat):Int) from rfl] at U;refine ax λI a w U=>?_;refine U.o (be 0 eH eb .tt .tt rfl (λ_=>by first|omega|(simp only[List.length_set,List.length_map];omega))) λU=>?_;refine U.o .fv λU=>?_;refine U.bT (j:=4) 0 bS .tt .tt (by first|exact bA rfl|exact bE|exact bF|exact bG) rfl bk rfl rfl λa w U=>?_;refine aV λI a w U=>?_;refine U.o (ba .tt .c (λ_=>by first|omega|(simp only[List.length_set,List.length_map];omega))) λU=>?_;rw[show((kk+4:Nat):Int)+1=((kk+5:Nat):Int) from rfl] at U;refine ax λI a w U=>?_;refine U.o (be 0 eH eb .tt .tt rfl (λ_=>by first|omega|(simp only[List.length_set,List.length_map];omega))) λU=>?_;refine aL λI a w U=>?_;refine U.bT (j:=5) 0 bS .tt .tt (by first|exact bA rfl|exact bE|exact bF|exact bG) rfl bk rfl rfl λa w U=>?_;refine aV λI a w U=>?_;refine U.o (ba .tt .c (λ_=>by first|omega|(simp only[List.length_set,List.length_map];omega))) λU=>?_;rw[show((kk+5:Nat):Int)+1=((kk+6:Nat):Int) from rfl] at U;refine ax λI a w U=>?_;refine U.o (be 0 eH eb .tt .tt rfl (λ_=>by first|omega|(simp only[List.length_set,List.length_map];omega))) λU=>?_;refine aL λI a w U=>?_;refine U.bT (j:=6) 0 bS .tt .tt (by first|exact bA rfl|exact bE|exact bF|exact bG) rfl bk rfl rfl λa w U=>?_;refine aV λI a w U=>?_;refine U.o (ba .tt .c (λ_=>by first|omega|(simp only[List.length_set,List.length_map];omega))) λU=>?_;rw[show((kk+6:Nat):Int)+1=((kk+7:Nat):Int) from rfl] at U;refine ax λI a w U=>?_;refine U.o (be 0 eH eb .tt .tt rfl (λ_=>by first|omega|(simp only[List.length_set,List.length_map];omega))) λU=>?_;refine U.o .fv λU=>?_;refine U.bT (j:=7) 0 bS .tt .tt (by first|exact bA rfl|exact bE|exact bF|exact bG) rfl bk rfl rfl λa w U=>?_;refine aV λI a w U=>?_;refine U.o (ba .tt .c (λ_=>by first|omega|(simp only[List.length_set,List.length_map];omega))) λU=>?_;rw[show((kk+7:Nat):Int)+1=((kk+8:Nat):Int) from rfl] at U;refine ax λI a w U=>?_;refine U.o (oc .tt .c (λ_=>by first|omega|(simp only[List.length_set,List.length_map];omega))) λU=>?_;refine U.o .oM λU=>?_;refine U.o (be 0 eH eb .tt .tt rfl (λ_=>by first|omega|(simp only[List.length_set,List.length_map];omega))) λU=>?_;refine U.o .fv λU=>?_;refine U.bT (j:=8) 0 oP .tt .tt (by first|exact bA rfl|exact bE|exact bF|exact bG) rfl bk rfl rfl λa w U=>?_;refine aV λI a w U=>?_;refine U.o (ba .tt .c (λ_=>by first|omega|(simp only[List.length_set,List.length_map];omega))) λU=>?_;rw[show((kk+8:Nat):Int)+1=((kk+9:Nat):Int) from rfl] at U;refine aN λI a w U=>?_;refine U.o (be 0 eH eb .tt .tt rfl (λ_=>by first|omega|(simp only[List.length_set,List.length_map];omega))) λU=>?_;refine U.o .fv λU=>?_;refine U.o (fk (j:=9) 0 gp .tt rfl (λ_=>fm bk) rfl rfl rfl) λU=>?_;refine U.m λU=>?_;refine U.dB [2] (ji _ (kk+9) t.x.aA (by rw[c7];omega)) (az .r (az .tt aP)) rfl aZ rfl λI a w U=>?_;have U:=U.nf;generalize dD:(ct (kk+9) t.x.aA).2=k1 at U;have kR:k1=_:=dD.symm.trans (c7);refine ax λI a w U=>?_;refine U.o (be 0 eH eb .tt .tt rfl (λ_=>by first|omega|(simp only[List.length_set,List.length_map];omega))) λU=>?_;refine U.o .fv λU=>?_;refine U.bT (j:=10) 0 bS .tt .tt (by first|exact bA rfl|exact bE|exact bF|exact bG) rfl bk rfl rfl λa w U=>?_;refine aV λI a w U=>?_;refine U.o (ba .tt .c (λ_=>by first|omega|(simp only[List.length_set,List.length_map];omega))) λU=>?_;rw[show((k1:Nat):Int)+1=((k1+1:Nat):Int) from rfl] at U;refine ax λI a w U=>?_;refine U.o (be 0 eH eb .tt .tt rfl (λ_=>by first|omega|(simp only[List.length_set,List.length_map];omega))) λU=>?_;refine U.o .fv λU=>?_;refine U.bT (j:=11) 0 bS .tt .tt (by first|exact bA rfl|exact bE|exact bF|exact bG) rfl bk rfl rfl λa w U=>?_;refine aV λI a w U=>?_;refine U.o (ba .tt .c (λ_=>by first|omega|(simp only[List.length_set,List.length_map];omega))) λU=>?_;rw[show((k1+1:Nat):Int)+1=((k1+2:Nat):Int) from rfl] at U;refine aN λI a w U=>?_;refine U.o (be 0 eH eb .tt .tt rfl (λ_=>by first|omega|(simp only[List.length_set,List.length_map];omega))) λU=>?_;refine U.o .fv λU=>?_;refine U.o (fk (j:=12) 0 oQ .tt rfl (λ_=>fm bk) rfl rfl rfl) λU=>?_;refine U.m λU=>?_;refine U.dB [3] (nk _ (k1+2) t.vs (by rw[jf];omega)) (az .r (az .tt aP)) rfl aZ rfl λI a w U=>?_;have U:=U.nf;generalize dz:(et (k1+2) t.vs).2=k2 at U;have sv:k2=_:=dz.symm.trans (jf);refine aN λI a w U=>?_;refine U.o (be 0 eH eb .tt .tt rfl (λ_=>by first|omega|(simp only[List.length_set,List.length_map];omega))) λU=>?_;refine U.o .fv λU=>?_;refine U.o (fk (j:=13) 0 oQ .tt rfl (λ_=>fm bk) rfl rfl rfl) λU=>?_;refine U.m λU=>?_;refine U.dB [4] (nk _ (k2) t.ws (by rw[jf];omega)) (az .r (az .tt aP)) rfl aZ rfl λI a w U=>?_;have U:=U.nf;generalize fq:(et (k2) t.ws).2=k3 at U;have sw:k3=_:=fq.symm.trans (jf);refine aN λI a w U=>?_;refine U.o (be 0 eH eb .tt .tt rfl (λ_=>by first|omega|(simp only[List.length_set,List.length_map];omega))) λU=>?_;refine U.o .fv λU=>?_;refine U.o (fk (j:=14) 0 gp .tt rfl (λ_=>fm bk) rfl rfl rfl) λU=>?_;refine U.m λU=>?_;refine U.dB [5] (ji _ (k3) t.x.bV (by rw[c7];omega)) (az .r (az .tt aP)) rfl aZ rfl λI a w U=>?_;have U:=U.nf;generalize j0:(ct (k3) t.x.bV).2=k4 at U;have xG:k4=_:=j0.symm.trans (c7);refine aL λI a w U=>?_;refine U.o (ba .tt .c (λ_=>by first|omega|(simp only[List.length_set,List.length_map];omega))) λU=>?_;refine aq λI a w U=>?_;subst dD;subst dz;subst fq;subst j0;have U:=U.l4 hx hm bZ rfl rfl;refine U.again (i+1) ?bu ?bw bh ?bx (by repeat(first|exact Env.le_rfl|refine Env.cL rfl ?_));case bu=>omega
  case bw=>show i+1<=_;omega
  case bx=>exact(Env.aU rfl bh (Env.aU rfl (by exact congrArg AV.int (by rw[dS];(try rfl))) Env.le_nil))
 simp only[B,List.length_map,dR] at ab;refine zt ?_;refine aH λI a w U=>?_;have U:=U.l5 om;refine U.ir rfl (.cons (.t rfl) .nil) rfl ?_;rw[List.take_of_length_le om];rfl
def ye (s t:cy):
 Fn prog 239 [s.av,t.av] (AV.bool (fO s t)):=by
 refine Fn.go 24 func239 ntmps239 (λW I a U=>?_);refine ru λI a w U=>?_;refine U.rt ?_;rfl
def sM (a b:ay):
 Fn prog 157 [a.av,b.av] (AV.bool (da a b)):=by
 refine Fn.go 24 func157 ntmps157 (λW I a U=>?_);refine v7 λI a w U=>?_;refine U.q .T2 (.cl (ye ..)) λU=>?_;refine oO ?_;rfl
def sN (l:List ay):
 Fn prog 140 [cY l] (AV.bool (fg l)):=by
 refine Fn.go 40 func140 ntmps140 (λW I a U=>?_);have hle:=U.cB (t:=0) rfl;refine bc λI a w U=>?_;refine St.lo (σ:=Nat) (run 3 2 (run 30 7 [])) ⟨λk=>[(7,AV.int k)],λk=>[],λk=>k<=l.length/\∀i,i<k->(cA jF da l) i=true⟩ (λk=>l.length-k) 0 U ?ar ?aW;case ar=>exact⟨by simp,λi hi=>by omega⟩
 rintro k I a w ak U;obtain⟨hk,au⟩:=ak;refine aq λI a w U=>?_;refine cz (λab=>?_) λab=>?_
 .refine aN λI a w U=>?_;refine U.alloc rfl ep gY λb4 I a w U=>?_;refine aH λI a w U=>?_;obtain⟨I,U⟩:=U.fb 0 4;refine U.dk ?_;refine fj ?_;refine .o (.c1 (pf ..)) ?_;refine iu ?_;refine .q .F (.cl (pg ..)) ?_;refine B3 ?_;refine .q .T2 (.cl (sM ..)) ?_;refine gE ?_;refine .nil ?_;intro I a w U;refine bM ?_;refine U.cd (λah=>?_) λah=>?_
  .rw[sa] at ah;replace ah:=nt ah;refine an ?_;exact aQ (by unfold fg;rw[cF (f:=(cA jF da l)) ab ah];simp)
  rw[sa] at ah;replace ah:=nf ah;refine aH λI a w U=>?_;have U:=U.drop 0;exact U.ag (k+1) (⟨by omega,cT au ah⟩)
 refine zt ?_;refine bc λI a w U=>?_;refine U.rt ?_;exact aQ (by unfold fg;rw[cD au om,Bool.and_true];simp;try omega)
def FL (l:List (List ay)) (p:(List ay)->Bool) (fv:AV) (hf:∀x:List ay,x∈l->ga prog fv [cY x] (AV.bool (p x))):
 Fn prog 148 [jb l,fv] (AV.int (dI p l)):=by
 refine Fn.go 19 func148 ntmps148 (λW I a U=>?_);have hle:=U.cB (t:=0) rfl;refine bc λI a w U=>?_;refine St.lo (σ:=Nat) (run 2 4 (run 11 8 [])) ⟨λk=>[(8,AV.int k)],λk=>[],λk=>k<=l.length/\∀i,i<k->p (ae l i)=false⟩ (λk=>l.length-k) 0 U ?ar ?aW;case ar=>exact⟨Nat.zero_le _,λi hi=>by omega⟩
 rintro k I a w ak U;obtain⟨hk,au⟩:=ak;refine aq λI a w U=>?_;refine cz (λab=>?_) λab=>?_
 .refine gX λI a w U=>?_;refine U.o (mL (hf _ (ez ab)) .tt (az .r aP)) λU=>?_;refine zt ?_;refine U.cd (λah=>?_) λah=>?_
  .refine bQ ?_;exact aT (jj ab au ah).symm
  refine aH λI a w U=>?_;exact U.ag (k+1) (⟨ab,λi h1=>by rcases Nat.lt_succ_iff_lt_or_eq.1 h1 with h|h;exact au i h;rw[h];exact ah⟩)
 refine zt ?_;refine an ?_;exact aT (iE om au).symm
def FM (l:List (List ay)) (p:(List ay)->Bool) (fv:AV) (hf:∀x:List ay,x∈l->ga prog fv [cY x] (AV.bool (p x))):
 Fn prog 70 [jb l,fv] (AV.bool (hasB p l)):=by
 refine Fn.go 9 func70 ntmps70 (λW I a U=>?_);refine aN λI a w U=>?_;refine U.o (.cl (FL _ _ _ hf)) λU=>?_;refine bQ ?_;rfl
def pG (x:cv):Bool:=aI x.fe 0 9999&&aI x.iX 0 2&&!((x.iX !=0)&&(x.fe==0))
def j4 (s:Server):Bool:=il s.site&&decide (s.cn.length=3)&&cJ s.ao&&cJ s.waits&&fg s.bV&&fg s.ek&&!(!s.up&&decide (0<s.ek.length))
def lg (s:Server) (i:Nat):Bool:=pG (ae s.cn i)
def pH (s:Server):(!il s.site||((s.cn.length:Int) !=3)||!cJ s.ao||!cJ s.waits||!fg s.bV||!fg s.ek||(!s.up&&decide (0<(s.ek.length:Int))))=!j4 s:=by
 have e:((s.cn.length:Int) !=3)=!decide (s.cn.length=3):=by rw[Bool.eq_iff_iff];simp;omega
 have e2:decide (0<(s.ek.length:Int))=decide (0<s.ek.length):=by rw[Bool.eq_iff_iff];simp
 rw[e,e2];simp[j4]
def sO (x:cv):(!aI x.fe 0 9999||!aI x.iX 0 2||((x.iX !=0)&&(x.fe==0)))=!pG x:=by simp[pG]
def sP {s:Server} (h:j4 s=true):s.cn.length=3/\cJ s.ao=true/\cJ s.waits=true/\fg s.bV=true/\fg s.ek=true/\il s.site=true:=by
 simp only[j4,Bool.and_eq_true,decide_eq_true_eq] at h;exact⟨h.1.1.1.1.1.2,h.1.1.1.1.2,h.1.1.1.2,h.1.1.2,h.1.2,h.1.1.1.1.1.1⟩
def yf (c:Call) (time:Int):(!fE c.bl||!aI c.num 1 99||!gF c||!aI c.val 0 9999||!cP c.ctx||!cP c.aR||!aI c.cO 1 time||!jD c.aE||!iF c)=!hF c time:=by simp[hF]
def bB.Fit (w:bB):Prop:=(∀m∈w.c0,bD m.kt/\bD m.to)/\∀d∈w.calls,bD d.bl
def yg {l:List al} {d:ay} (hc:cJ l=true):(gH l d).isSome=decide (0<=placeOf l d):=by
 unfold gH;by_cases h:0<=placeOf l d
 .rw[if_pos ⟨hc,h⟩];simp[h]
 rw[if_neg (by simp[h])];simp[h]
def lh (s:Server) (i:Nat):Bool:=!((decide (0<=placeOf s.ao (ae s.waits i).cG))||(ff (ae s.waits i).aE.site==ff s.site))
def iL (s:Server) (i:Nat):Bool:=decide (0<=placeOf s.ao (ae s.bV i))
def yh (x:cv):(!aI x.fe 0 9999||!aI x.iX 0 2||((x.iX !=0)&&decide (x.fe<1)))=!pG x:=by
 rw[<-sO];by_cases h:aI x.fe 0 9999=true
 .have e:decide (x.fe<1)=(x.fe==0):=by
   simp[aI] at h;rw[Bool.eq_iff_iff];simp;omega
  rw[e]
 simp[h]
def FN {n:Nat} {f g:Nat->Bool}:bC n (λi=>f i&&g i)=(bC n f&&bC n g):=by
 rw[Bool.eq_iff_iff,Bool.and_eq_true,fF,fF,fF];exact⟨λh=>⟨λi hi=>(Bool.and_eq_true_iff.1 (h i hi)).1,λi hi=>(Bool.and_eq_true_iff.1 (h i hi)).2⟩,λh i hi=>Bool.and_eq_true_iff.2 ⟨h.1 i hi,h.2 i hi⟩⟩
def yi (s:Server) (i:Nat) (hc:cJ s.ao=true):((gH s.ao ⟨(ae s.waits i).key,(ae s.waits i).aE⟩).isSome||(ff (ae s.waits i).aE.site==ff s.site))=!lh s i:=by
 rw[yg hc];show _=!!(_||_);rw[Bool.not_not];rfl
def yj (s:Server) (i:Nat) (hc:cJ s.ao=true):(!(gH s.ao ⟨(ae s.bV i).key,(ae s.bV i).aE⟩).isSome)=!iL s i:=by
 rw[yg hc];simp[iL]
def gM:List al->al->List al
 |[],v=>[v]
 |x::r,v=>if c4 v x then v::x::r else x::gM r v
def FO {a b:ay} (h:da a b=false) (h':da b a=false):a=b:=by
 obtain⟨k,⟨t,s⟩⟩:=a;obtain⟨k',⟨t',s'⟩⟩:=b;simp[da,fO] at h h';simp;omega
def FP (a:ay):da a a=false:=by simp[da,fO]
def FQ {a b d:ay} (h:da a b=true) (h':da b d=true):da a d=true:=by
 obtain⟨k,⟨t,s⟩⟩:=a;obtain⟨k',⟨t',s'⟩⟩:=b;obtain⟨k2,⟨t2,s2⟩⟩:=d;simp[da,fO] at h h'⊢;omega
def FR {l:List al} {d:ay} (h:∀x∈l,x.cG≠d):placeOf l d<0:=by
 rcases Int.lt_or_le (placeOf l d) 0 with hn|hn
 .exact hn
 obtain⟨k,hk,hp⟩:=se hn;simp[eX] at hp;exact absurd hp (h _ (ez hk))
def pI (out:List al) (v:al):List al:=if placeOf out v.cG<0 then gM out v else out
def FT {α:Type} [Inhabited α] {R:α->α->Prop} (tr:∀{a b d},R a b->R b d->R a d) {l:List α} (h:∀i,0<i->i<l.length->R (ae l (i-1)) (ae l i)):l.Pairwise R:=by
 rw[List.pairwise_iff_getElem];intro i j hi hj fL;have e:∀k (hk:k<l.length),l[k]=ae l k:=λk hk=>by simp[ae,hk]
 rw[e i hi,e j hj];obtain⟨n,rfl⟩:∃n,j=i+1+n:=⟨j-(i+1),by omega⟩;clear fL;induction n with
 |zero=>have:=h (i+1) om hj;simpa using this
 |succ n ih=>
  have h1:=ih om
  have h2:=h (i+1+(n+1)) om hj
  rw[show i+1+(n+1)-1=i+1+n from by omega] at h2
  exact tr h1 h2
structure fK (l:List al) (v:al) (k:Nat) (done:Bool) (out:List al):Prop where
 hk:k<=l.length
 eq:gM l v=if done then out++l.drop k else out++gM (l.drop k) v
 len:out.length<=k+done.toNat
def fK.zero (l:List al) (v:al):fK l v 0 false []:=⟨Nat.zero_le _,by simp,by simp⟩
section
variable {l:List al} {v:al} {k:Nat} {out:List al} {done:Bool}
def fK.before (hp:fK l v k false out) (h:k<l.length) (he:c4 v (ae l k)=true):fK l v (k+1) true ((out++[v])++[ae l k]):=by
 refine⟨h,?_,by have:=hp.len;simp at this⊢;omega⟩;have:=hp.eq;rw[lE h] at this;simp only[gM,if_pos he] at this;rw[this];simp
def fK.step (hp:fK l v k done out) (h:k<l.length) (he:done=true\/c4 v (ae l k)=false):fK l v (k+1) done (out++[ae l k]):=by
 refine⟨h,?_,by have:=hp.len;simp;omega⟩;have:=hp.eq;cases done
 .rw[lE h] at this;have he:c4 v (ae l k)=false:=he.resolve_left aJ;simp only[gM,he] at this;rw[this];simp
 simp only[if_true] at this⊢;rw[this,lE h];simp
def fK.FU (hp:fK l v k true out) (h:l.length<=k):out=gM l v:=by
 have:=hp.eq;rw[List.drop_eq_nil_of_le h] at this;simpa using this.symm
def fK.FV (hp:fK l v k false out) (h:l.length<=k):out++[v]=gM l v:=by
 have:=hp.eq;rw[List.drop_eq_nil_of_le h] at this;simpa[gM] using this.symm
end
def pJ {α:Type} {f:α->List AV} (l:List α) (x:α):l.map f++[f x]=(l++[x]).map f:=by simp
def FW (x:Answer) (s:cy):
 Fn prog 191 [x.av,s.av] (AV.bool (nw x s)):=by
 refine Fn.go 15 func191 ntmps191 (λW I a U=>?_);refine vX λI a w U=>?_;refine U.q .F (.cl (ye ..)) λU=>?_;refine bQ ?_;rfl
def yk (q:Call):(((q.kind==1)&&decide (0<(q.aG.length:Int)+q.aR.length))||(!(q.kind==1)&&((q.val !=0)||!en q.aE)))=!pn q:=by simp[pn]
def pK:m1 prog 162 3 3 (λx:Int=>Lit.int .i64 x) (λx:Int=>Value.int .i64 x) (λx=>.lit (.int .i64 x)) (λx=>-9223372036854775808<=x/\x<=9223372036854775807) 0:=BJ CL lV lV λw=>bS.zero
def yl {α:Type} [Inhabited α] {l:List α} {j k:Nat} (h:j<k):ae (l.take k) j=ae l j:=by
 unfold ae;simp[List.getD_eq_getElem?_getD,List.getElem?_take,h]
def FX (n:Nat):decide ((n:Int)<=20)=decide (n<=20):=by rw[Bool.eq_iff_iff];simp;omega
def FY (l:List al) (v:al) (h:l.length<=1048575) (hd:∀u∈l,u.aA.length<=1048576) (hv:v.aA.length<=1048576):
 Fn prog 102 [bN l,v.av] (bN (gM l v)):=by
 refine Fn.go 46 func102 ntmps102 (λW I a U=>?_);refine aH λI a w U=>?_;refine U.l0 λb8 I a w U=>?_;refine aK λI a w U=>?_;refine St.lo (σ:=Nat×Bool×List al×Value) (run 3 5 (run 29 9 [])) ⟨λ⟨k,done,out,u⟩=>[(7,AV.int k),(6,AV.bool done),(5,AV.val u)],λ⟨k,done,out,u⟩=>[Own.row u 54 7 (out.map al.cells)],λ⟨k,done,out,u⟩=>fK l v k done out⟩ (λ⟨k,done,out,u⟩=>l.length-k) (0,false,[],.slice (some ⟨b8,0,none⟩) 0 0) U ?ar ?aW;case ar=>exact fK.zero l v
 rintro⟨k,done,out,u⟩ I a w ak U;have hp:fK l v k done out:=ak;have hk:=hp.hk;have iV:=hp.len;have oj:done.toNat<=1:=by cases done<;>simp
 dsimp only at U;refine bc λI a w U=>?_;refine cz (λab=>?_) λab=>?_
 .refine zt ?_;refine U.dk ?_;refine jd ?_;refine .q .T (.cl (xb ..)) ?_;refine c6 ?_;refine .nil ?_;intro I a w U;refine bM ?_;refine cz (λah=>?_) λah=>?_
  .refine aL λI a w U=>?_;refine U.o (.c1 (nz v hv)) λU=>?_;refine U.o (.li [v.cells] lU (.u .nil)) λU=>?_;refine U.ap 0 λJR a w U=>?_;rw[pJ] at U;refine gX λI a w U=>?_;refine U.o (.c1 (nz (ae l k) (hd _ (ez ab)))) λU=>?_;refine U.o (.li [(ae l k).cells] lU (.u .nil)) λU=>?_;refine U.ap 0 λsQ a w U=>?_;rw[pJ] at U;refine bc λI a w U=>?_;exact U.ag (k+1,true,(out++[v])++[ae l k],sQ) (by obtain⟨h1,h2⟩:=ah;subst h1;exact hp.before ab h2)
  refine bJ λI a w U=>?_;refine U.o (.c1 (nz (ae l k) (hd _ (ez ab)))) λU=>?_;refine U.o (.li [(ae l k).cells] lU (.u .nil)) λU=>?_;refine U.ap 0 λsQ a w U=>?_;rw[pJ] at U;refine bc λI a w U=>?_;exact U.ag (k+1,done,out++[ae l k],sQ) (hp.step ab (by simpa using ah))
 refine zt ?_;refine aH λI a w U=>?_;refine cz (λai=>?_) λai=>?_
 .refine aL λI a w U=>?_;refine U.o (.c1 (nz v hv)) λU=>?_;refine U.o (.li [v.cells] lU (.u .nil)) λU=>?_;refine U.ap 0 λJS a w U=>?_;rw[pJ] at U;refine aK λI a w U=>?_;obtain⟨I,U⟩:=U.fr 0 4;refine U.rt ?_;exact congrArg (AV.rows 7) (by subst ai;exact hp.FV om▸rfl)
 refine aH λI a w U=>?_;obtain⟨I,U⟩:=U.fr 0 4;refine U.rt ?_;exact congrArg (AV.rows 7) (by subst ai;rw[hp.FU om])
def FZ {l:Int} {a:Nat} (h:0<=bq l a):(a:Int)<=l:=by unfold bq at h;split at h<;>omega
def eh (s:Server):Nat:=nA s.cn+gJ s.ao+gJ s.waits+dJ s.bV+dJ s.ek
def jr (l:List Server):Nat:=l.length+bY eh l
def F0 (l:List cv) (left:Int) (h0:0<=left) (h1:left<=1048576):
 Fn prog 257 [lH l,AV.int left] (AV.int (bq left (nA l))):=by
 refine Fn.go 12 func257 ntmps257 (λW I a U=>?_);have hle:=U.cB (t:=0) rfl;refine db λI a w U=>?_;refine cz (λab=>?_) λab=>?_
 .refine an ?_;exact aT (jm ab (Nat.le_refl _))
 refine bQ ?_;exact aT (su ab)
def F1 (x:Server) (left:Int) (h0:0<=left) (h1:left<=1048576):
 Fn prog 193 [x.av,AV.int left] (AV.int (bq left (eh x))):=by
 refine Fn.go 36 func193 ntmps193 (λW I a U=>?_);refine bJ λI a w U=>?_;refine U.o (.cl (F0 _ _ h0 h1)) λU=>?_;refine aK λI a w U=>?_;refine cz (λab=>?_) λab=>?_
 .refine an ?_;exact aT (dh ab (by unfold eh;omega))
 refine aN λI a w U=>?_;refine U.o (.cl (py _ _ ab (eB h1))) λU=>?_;rw[eA ab] at U;refine aK λI a w U=>?_;refine cz (λah=>?_) λah=>?_
 .refine an ?_;exact aT (dh ah (by unfold eh;omega))
 refine aN λI a w U=>?_;refine U.o (.cl (py _ _ ah (eB h1))) λU=>?_;rw[eA ah] at U;refine aK λI a w U=>?_;refine cz (λai=>?_) λai=>?_
 .refine an ?_;exact aT (dh ai (by unfold eh;omega))
 refine aN λI a w U=>?_;refine U.o (.cl (jY _ _ ai (eB h1))) λU=>?_;rw[eA ai] at U;refine aK λI a w U=>?_;refine cz (λaF=>?_) λaF=>?_
 .refine an ?_;exact aT (dh aF (by unfold eh;omega))
 refine aN λI a w U=>?_;refine U.o (.cl (jY _ _ aF (eB h1))) λU=>?_;rw[eA aF] at U;refine aK λI a w U=>?_;refine cz (λaS=>?_) λaS=>?_
 .refine an ?_;exact aT (dh aS (by unfold eh;omega))
 refine bQ ?_;exact aT rfl
def F3 (l:List (Server)) (left:Int) (h0:0<=left) (h1:left<=1048576):
 Fn prog 97 [ku l,AV.int left] (AV.int (bq left (jr l))):=by
 refine Fn.go 27 func97 ntmps97 (λW I a U=>?_);have hle:=U.cB (t:=0) rfl;refine db λI a w U=>?_;refine cz (λab=>?_) λab=>?_
 .refine an ?_;exact aT (jm ab (by unfold jr;omega))
 refine aq λI a w U=>?_;refine St.ju (σ:=Nat) (1::(run 2 4 (run 14 12 []))) ⟨λk=>[(5,AV.int k),(1,AV.int (bq left (l.length+bY eh (l.take k))))],λk=>[],λk=>k<=l.length/\0<=bq left (l.length+bY eh (l.take k))⟩ (λk=>l.length-k) 0 U rfl ?ar ?gw ?aW;case ar=>exact⟨Nat.zero_le _,by simp only[bq,bY,List.take_zero,List.map_nil,List.sum_nil];split<;>omega⟩
 case gw=>exact(Env.aU rfl bh (Env.aU rfl (by exact congrArg AV.int (by simp only[bq,bY,List.take_zero,List.map_nil,List.sum_nil];split<;>omega)) Env.le_nil))
 rintro k I a w ak U;obtain⟨hk,eY⟩:=ak;refine bc λI a w U=>?_;refine cz (λah=>?_) λah=>?_
 .refine bJ λI a w U=>?_;refine U.o (.c2 (F1 _ _ eY (eB h1))) λU=>?_;rw[eA eY] at U;refine aK λI a w U=>?_;refine U.cd (λai=>?_) λai=>?_
  .simp only[decide_eq_true_eq] at ai;refine an ?_;exact aT (dh ai (by have e1:=eC (f:=eh) ah;have e2:=jX (f:=eh) l (k+1);unfold jr;omega))
  simp only[decide_eq_false_iff_not,Int.not_lt] at ai;refine aK λI a w U=>?_;refine U.again (k+1) ?bu ?bw bh ?bx (by repeat(first|exact Env.le_rfl|refine Env.cL rfl ?_));case bu=>omega
  case bw=>exact⟨ah,by rw[eC ah,<-Nat.add_assoc];exact ai⟩
  case bx=>exact(Env.aU rfl bh (Env.aU rfl (by exact congrArg AV.int (by rw[eC ah,<-Nat.add_assoc])) Env.le_nil))
 refine zt ?_;refine bQ ?_;exact aT (by unfold jr;rw[List.take_of_length_le om])
def F4 {x:bB} (h:x.Deep):x.Fit:=⟨λm hm=>⟨(h.2.2.1 m hm).2.1,(h.2.2.1 m hm).2.2.1⟩,λq hq=>(h.2.2.2.1 q hq).1⟩
def F5 (l:List (cu)):
 Fn prog 109 [iY l,iY l] (AV.bool true):=by
 refine Fn.go 27 func109 ntmps109 (λW I a U=>?_);have hle:=U.cB (t:=0) rfl;refine fQ λI a w U=>?_;refine U.cd (λab=>?_) λab=>?_
 .exfalso;simp at ab;skip
 refine aq λI a w U=>?_;refine St.lo (σ:=Nat) (run 2 4 (run 16 11 [])) ⟨λk=>[(5,AV.int k)],λk=>[],λk=>k<=l.length⟩ (λk=>l.length-k) 0 U ?ar ?aW;case ar=>exact Nat.zero_le _
 rintro k I a w ak U;have hk:k<=l.length:=ak;refine bc λI a w U=>?_;refine cz (λah=>?_) λah=>?_
 .refine zt ?_;refine U.dk ?_;refine jd ?_;refine .o (.c2 (Et ..)) ?_;refine c6 ?_;refine .nil ?_;intro I a w U;refine bM ?_;refine U.cd (λai=>?_) λai=>?_
  .exfalso;simp at ai;skip
  refine aK λI a w U=>?_;exact U.ag (k+1) (ah)
 refine zt ?_;refine an ?_;rfl
def pL {H:Type} {enc:TypeId×Value->H} {W:World}:fo enc prog W cy.cells cy.Deep 199:=λn cs x h=>by
 obtain⟨xs,m,_,_,hl,hx,hf⟩:=DataW.trod_struct (show prog.underlying 199=some (.struct (prog.fieldsOf 199)) by kernel_rfl) h;rw[show prog.cellsOf 199=2 by kernel_rfl] at hl;obtain⟨y0,a0,b0⟩:=part (ft:=3) (off:=0) (s:=1) (i:=0) (cW (t:=3) aj) hx hf aj aj;obtain⟨y1,a1,b1⟩:=part (ft:=3) (off:=1) (s:=1) (i:=1) (cW (t:=3) aj) hx hf aj aj;exact⟨⟨y0,y1⟩,bt a0 (bt a1 (jh hl)),⟨b0,b1⟩⟩
def j5 {H:Type} {enc:TypeId×Value->H} {W:World}:fo enc prog W ay.cells ay.Deep 249:=λn cs x h=>by
 obtain⟨xs,m,_,_,hl,hx,hf⟩:=DataW.trod_struct (show prog.underlying 249=some (.struct (prog.fieldsOf 249)) by kernel_rfl) h;rw[show prog.cellsOf 249=3 by kernel_rfl] at hl;obtain⟨y0,a0,b0⟩:=part (ft:=3) (off:=0) (s:=1) (i:=0) (cW (t:=3) aj) hx hf aj aj;obtain⟨y1,a1,b1⟩:=part (ft:=199) (off:=1) (s:=2) (i:=1) pL hx hf aj aj;exact⟨⟨y0,y1⟩,bt a0 (bt a1 (jh hl)),⟨b0,b1⟩⟩
def nN {H:Type} {enc:TypeId×Value->H} {W:World}:fo enc prog W al.cells al.Deep 267:=λn cs x h=>by
 obtain⟨xs,m,_,_,hl,hx,hf⟩:=DataW.trod_struct (show prog.underlying 267=some (.struct (prog.fieldsOf 267)) by kernel_rfl) h;rw[show prog.cellsOf 267=7 by kernel_rfl] at hl;obtain⟨y0,a0,b0⟩:=part (ft:=3) (off:=0) (s:=1) (i:=0) (cW (t:=3) aj) hx hf aj aj;obtain⟨y1,a1,b1⟩:=part (ft:=199) (off:=1) (s:=2) (i:=1) pL hx hf aj aj;obtain⟨y2,a2,b2⟩:=part (ft:=3) (off:=3) (s:=1) (i:=2) (cW (t:=3) aj) hx hf aj aj;obtain⟨y3,a3,b3⟩:=part (ft:=3) (off:=4) (s:=1) (i:=3) (cW (t:=3) aj) hx hf aj aj;obtain⟨y4,a4,b4⟩:=part (ft:=3) (off:=5) (s:=1) (i:=4) (cW (t:=3) aj) hx hf aj aj;obtain⟨y5,a5,b5⟩:=part (ft:=195) (off:=6) (s:=1) (i:=5) (ey (t:=195) (sz:=3) aj aj aZ (λ_=>rfl) j5) hx hf aj aj;exact⟨⟨y0,y1,y2,y3,y4,y5⟩,bt a0 (bt a1 (bt a2 (bt a3 (bt a4 (bt a5 (jh hl)))))),⟨b0,b1,b2,b3,b4,b5⟩⟩
def F6 {H:Type} {enc:TypeId×Value->H} {W:World}:fo enc prog W cu.cells cu.Deep 201:=λn cs x h=>by
 obtain⟨xs,m,_,_,hl,hx,hf⟩:=DataW.trod_struct (show prog.underlying 201=some (.struct (prog.fieldsOf 201)) by kernel_rfl) h;rw[show prog.cellsOf 201=15 by kernel_rfl] at hl;obtain⟨y0,a0,b0⟩:=part (ft:=3) (off:=0) (s:=1) (i:=0) (cW (t:=3) aj) hx hf aj aj;obtain⟨y1,a1,b1⟩:=part (ft:=3) (off:=1) (s:=1) (i:=1) (cW (t:=3) aj) hx hf aj aj;obtain⟨y2,a2,b2⟩:=part (ft:=3) (off:=2) (s:=1) (i:=2) (cW (t:=3) aj) hx hf aj aj;obtain⟨y3,a3,b3⟩:=part (ft:=3) (off:=3) (s:=1) (i:=3) (cW (t:=3) aj) hx hf aj aj;obtain⟨y4,a4,b4⟩:=part (ft:=3) (off:=4) (s:=1) (i:=4) (cW (t:=3) aj) hx hf aj aj;obtain⟨y5,a5,b5⟩:=part (ft:=199) (off:=5) (s:=2) (i:=5) pL hx hf aj aj;obtain⟨y6,a6,b6⟩:=part (ft:=3) (off:=7) (s:=1) (i:=6) (cW (t:=3) aj) hx hf aj aj;obtain⟨y7,a7,b7⟩:=part (ft:=4) (off:=8) (s:=1) (i:=7) (pd (t:=4) aj) hx hf aj aj;obtain⟨y8,a8,b8⟩:=part (ft:=195) (off:=9) (s:=1) (i:=8) (ey (t:=195) (sz:=3) aj aj aZ (λ_=>rfl) j5) hx hf aj aj;obtain⟨y9,a9,b9⟩:=part (ft:=3) (off:=10) (s:=1) (i:=9) (cW (t:=3) aj) hx hf aj aj;obtain⟨sR,sS,jl⟩:=part (ft:=3) (off:=11) (s:=1) (i:=10) (cW (t:=3) aj) hx hf aj aj;obtain⟨sT,sU,k7⟩:=part (ft:=194) (off:=12) (s:=1) (i:=11) (ey (t:=194) (sz:=7) aj aj aZ (λ_=>rfl) nN) hx hf aj aj;obtain⟨sK,F7,pt⟩:=part (ft:=194) (off:=13) (s:=1) (i:=12) (ey (t:=194) (sz:=7) aj aj aZ (λ_=>rfl) nN) hx hf aj aj;obtain⟨F8,F9,so⟩:=part (ft:=195) (off:=14) (s:=1) (i:=13) (ey (t:=195) (sz:=3) aj aj aZ (λ_=>rfl) j5) hx hf aj aj;exact⟨⟨y0,y1,y2,y3,y4,y5,y6,y7,y8,y9,sR,sT,sK,F8⟩,bt a0 (bt a1 (bt a2 (bt a3 (bt a4 (bt a5 (bt a6 (bt a7 (bt a8 (bt a9 (bt sS (bt sU (bt F7 (bt F9 (jh hl)))))))))))))),⟨b0,b1,b2,b3,b4,b5,b6,b7,b8,b9,jl,k7,pt,so⟩⟩
def Ga {H:Type} {enc:TypeId×Value->H} {W:World}:fo enc prog W Answer.cells Answer.Deep 270:=λn cs x h=>by
 obtain⟨xs,m,_,_,hl,hx,hf⟩:=DataW.trod_struct (show prog.underlying 270=some (.struct (prog.fieldsOf 270)) by kernel_rfl) h;rw[show prog.cellsOf 270=9 by kernel_rfl] at hl;obtain⟨y0,a0,b0⟩:=part (ft:=3) (off:=0) (s:=1) (i:=0) (cW (t:=3) aj) hx hf aj aj;obtain⟨y1,a1,b1⟩:=part (ft:=4) (off:=1) (s:=1) (i:=1) (pd (t:=4) aj) hx hf aj aj;obtain⟨y2,a2,b2⟩:=part (ft:=267) (off:=2) (s:=7) (i:=2) nN hx hf aj aj;exact⟨⟨y0,y1,y2⟩,bt a0 (bt a1 (bt a2 (jh hl))),⟨b0,b1,b2⟩⟩
def Gb {H:Type} {enc:TypeId×Value->H} {W:World}:fo enc prog W Call.cells Call.Deep 205:=λn cs x h=>by
 obtain⟨xs,m,_,_,hl,hx,hf⟩:=DataW.trod_struct (show prog.underlying 205=some (.struct (prog.fieldsOf 205)) by kernel_rfl) h;rw[show prog.cellsOf 205=13 by kernel_rfl] at hl;obtain⟨y0,a0,b0⟩:=part (ft:=3) (off:=0) (s:=1) (i:=0) (cW (t:=3) aj) hx hf aj aj;obtain⟨y1,a1,b1⟩:=part (ft:=3) (off:=1) (s:=1) (i:=1) (cW (t:=3) aj) hx hf aj aj;obtain⟨y2,a2,b2⟩:=part (ft:=3) (off:=2) (s:=1) (i:=2) (cW (t:=3) aj) hx hf aj aj;obtain⟨y3,a3,b3⟩:=part (ft:=39) (off:=3) (s:=1) (i:=3) (ey (t:=39) (sz:=1) aj aj aZ (λ_=>rfl) (cW (t:=3) aj)) hx hf aj aj;obtain⟨y4,a4,b4⟩:=part (ft:=3) (off:=4) (s:=1) (i:=4) (cW (t:=3) aj) hx hf aj aj;obtain⟨y5,a5,b5⟩:=part (ft:=195) (off:=5) (s:=1) (i:=5) (ey (t:=195) (sz:=3) aj aj aZ (λ_=>rfl) j5) hx hf aj aj;obtain⟨y6,a6,b6⟩:=part (ft:=3) (off:=6) (s:=1) (i:=6) (cW (t:=3) aj) hx hf aj aj;obtain⟨y7,a7,b7⟩:=part (ft:=3) (off:=7) (s:=1) (i:=7) (cW (t:=3) aj) hx hf aj aj;obtain⟨y8,a8,b8⟩:=part (ft:=4) (off:=8) (s:=1) (i:=8) (pd (t:=4) aj) hx hf aj aj;obtain⟨y9,a9,b9⟩:=part (ft:=199) (off:=9) (s:=2) (i:=9) pL hx hf aj aj;obtain⟨sR,sS,jl⟩:=part (ft:=203) (off:=11) (s:=1) (i:=10) (ey (t:=203) (sz:=9) aj aj aZ (λ_=>rfl) Ga) hx hf aj aj;obtain⟨sT,sU,k7⟩:=part (ft:=195) (off:=12) (s:=1) (i:=11) (ey (t:=195) (sz:=3) aj aj aZ (λ_=>rfl) j5) hx hf aj aj;exact⟨⟨y0,y1,y2,y3,y4,y5,y6,y7,y8,y9,sR,sT⟩,bt a0 (bt a1 (bt a2 (bt a3 (bt a4 (bt a5 (bt a6 (bt a7 (bt a8 (bt a9 (bt sS (bt sU (jh hl)))))))))))),⟨b0,b1,b2,b3,b4,b5,b6,b7,b8,b9,jl,k7⟩⟩
def Gc {t:NT} {x:bB} (h:t.plain=x):t.seen.length=x.seen.length:=by rw[<-h];simp[NT.plain]
def Gd {l:List VT} {y:List al} (h:l.map VT.x=y) (k:Nat):eT (et k l).1=(aw bX k y).1/\(et k l).2=(aw bX k y).2:=by
 have e:eT l=y:=h;have:=o4 (k:=k) (l:=l);rw[e] at this;exact⟨(congrArg Prod.fst this).symm,(congrArg Prod.snd this).symm⟩
def E2 (v:Value) (k:Nat) (l:List Int) (hb:(iy k l).2<=1152921504606846976):
 c5 prog 209 [AV.val v,AV.int (k:Nat)] [Own.ints KK v l] [Own.ints KK v (iy k l).1] (AV.int ((iy k l).2:Nat)):=by
 refine c5.intro 19 func209 rfl ntmps209 rfl aj (λW I a U=>?_);have hl:k+l.length<=(iy k l).2:=iC (f:=lX) (c:=λ_=>1) (λ_ _=>rfl) (λ_=>by decide);refine aH λI a w U=>?_;refine St.lo (σ:=Nat) (1::(run 13 5 [])) ⟨λi=>[(5,AV.int i),(1,AV.int ((aw lX k (l.take i)).2:Nat))],λi=>[Own.row v KK.int 1 ((cw lX k l i).map gD)],λi=>i<=l.length⟩ (λi=>l.length-i) 0 U ?ar ?aW;case ar=>exact Nat.zero_le _
 rintro i I a w ak U;have iD:i<=l.length:=ak;dsimp only at U;refine aL λI a w U=>?_;refine U.o (iR 0 oW .tt rfl) λU=>?_;refine aq λI a w U=>?_;refine U.cd (λab=>?_) λab=>?_
 .simp only[B,List.length_map,dR] at ab;refine wp_skip<|bM<|wp_seq<|wp_block<|wp_seq ?_;obtain⟨t,hx⟩:=get_some ab;obtain⟨m,hm,jP,U⟩:=U.rV hx;generalize bZ:(aw lX k (l.take i)).2=kk at U;obtain⟨dS,de⟩:=g7 (f:=lX) (c:=λ_=>1) (λ_ _=>rfl) hx bZ;change _<=(iy k l).2 at de;refine aN λI a w U=>?_;refine U.o (be 0 oW bS .tt .tt rfl (λ_=>by first|omega|(simp only[List.length_set,List.length_map];omega))) λU=>?_;refine U.bT (j:=0) 0 bS .tt .tt (by first|exact bA rfl|exact bE|exact bF|exact bG) rfl bk rfl rfl λa w U=>?_;refine aV λI a w U=>?_;refine U.o (ba .tt .c (λ_=>by first|omega|(simp only[List.length_set,List.length_map];omega))) λU=>?_;rw[show((kk:Nat):Int)+1=((kk+1:Nat):Int) from rfl] at U;refine aL λI a w U=>?_;refine U.o (ba .tt .c (λ_=>by first|omega|(simp only[List.length_set,List.length_map];omega))) λU=>?_;refine aq λI a w U=>?_;have U:=U.rW hx hm bZ rfl;refine U.again (i+1) ?bu ?bw bh ?bx (by repeat(first|exact Env.le_rfl|refine Env.cL rfl ?_));case bu=>omega
  case bw=>show i+1<=_;omega
  case bx=>exact(Env.aU rfl bh (Env.aU rfl (by exact congrArg AV.int (by rw[dS];(try rfl))) Env.le_nil))
 simp only[B,List.length_map,dR] at ab;refine zt ?_;refine aH λI a w U=>?_;have U:=U.rX om;refine U.ir rfl (.cons (.t rfl) .nil) rfl ?_;rw[List.take_of_length_le om];rfl
def E3 (v:Value) (k:Nat) (l:List CT) (hb:(aw eW k l).2<=1152921504606846976):
 c5 prog 114 [AV.val v,AV.int (k:Nat)] [Own.calls KK v l] [Own.calls KK v (aw eW k l).1] (AV.int ((aw eW k l).2:Nat)):=by
 refine c5.intro 108 func114 rfl ntmps114 rfl aj (λW I a U=>?_);have hl:k+l.length<=(aw eW k l).2:=iC (f:=eW) (c:=λt=>iB t.plain) (o8) (λt=>by simp only[iB,CT.plain];omega);have U:=U.parts;refine aH λI a w U=>?_;refine St.lo (σ:=Nat) (1::(run 102 5 [])) ⟨λi=>[(5,AV.int i),(1,AV.int ((aw eW k (l.take i)).2:Nat))],λi=>[Own.row v KK.call 13 ((cw eW k l i).map CT.cells),Own.many ((cw eW k l i).map λx=>Own.many (CT.owns KK x))],λi=>i<=l.length⟩ (λi=>l.length-i) 0 U ?ar ?aW;case ar=>exact Nat.zero_le _
 rintro i I a w ak U;have iD:i<=l.length:=ak;dsimp only at U;refine aL λI a w U=>?_;refine U.o (iR 0 eS .tt rfl) λU=>?_;refine aq λI a w U=>?_;refine U.cd (λab=>?_) λab=>?_
 .simp only[B,List.length_map,dR] at ab;refine wp_skip<|bM<|wp_seq<|wp_block<|wp_seq ?_;obtain⟨t,hx⟩:=get_some ab;obtain⟨m,hm,jP,U⟩:=U.l3 hx;generalize bZ:(aw eW k (l.take i)).2=kk at U;obtain⟨dS,de⟩:=g7 (f:=eW) (c:=λt=>iB t.plain) (o8) hx bZ;simp only[iB,CT.plain] at de;change _<=(aw eW k l).2 at de;dsimp only[CT.owns,List.cons_append,List.nil_append] at U;refine aN λI a w U=>?_;refine U.o (be 0 eS dO .tt .tt rfl (λ_=>by first|omega|(simp only[List.length_set,List.length_map];omega))) λU=>?_;refine U.o .fv λU=>?_;refine U.bT (j:=0) 0 bS .tt .tt (by first|exact bA rfl|exact bE|exact bF|exact bG) rfl bk rfl rfl λa w U=>?_;refine aV λI a w U=>?_;refine U.o (ba .tt .c (λ_=>by first|omega|(simp only[List.length_set,List.length_map];omega))) λU=>?_;rw[show((kk:Nat):Int)+1=((kk+1:Nat):Int) from rfl] at U;refine ax λI a w U=>?_;refine U.o (be 0 eS dO .tt .tt rfl (λ_=>by first|omega|(simp only[List.length_set,List.length_map];omega))) λU=>?_;refine U.o .fv λU=>?_;refine U.bT (j:=1) 0 bS .tt .tt (by first|exact bA rfl|exact bE|exact bF|exact bG) rfl bk rfl rfl λa w U=>?_;refine aV λI a w U=>?_;refine U.o (ba .tt .c (λ_=>by first|omega|(simp only[List.length_set,List.length_map];omega))) λU=>?_;rw[show((kk+1:Nat):Int)+1=((kk+2:Nat):Int) from rfl] at U;refine ax λI a w U=>?_;refine U.o (be 0 eS dO .tt .tt rfl (λ_=>by first|omega|(simp only[List.length_set,List.length_map];omega))) λU=>?_;refine U.o .fv λU=>?_;refine U.bT (j:=2) 0 bS .tt .tt (by first|exact bA rfl|exact bE|exact bF|exact bG) rfl bk rfl rfl λa w U=>?_;refine aV λI a w U=>?_;refine U.o (ba .tt .c (λ_=>by first|omega|(simp only[List.length_set,List.length_map];omega))) λU=>?_;rw[show((kk+2:Nat):Int)+1=((kk+3:Nat):Int) from rfl] at U;refine aN λI a w U=>?_;refine U.o (be 0 eS dO .tt .tt rfl (λ_=>by first|omega|(simp only[List.length_set,List.length_map];omega))) λU=>?_;refine U.o .fv λU=>?_;refine U.o (fk (j:=3) 0 Ca .tt rfl (λ_=>fm bk) rfl rfl rfl) λU=>?_;refine U.m λU=>?_;refine U.dB [2] (E2 _ (kk+3) t.x.keys (by rw[rS];omega)) (az .r (az .tt aP)) rfl aZ rfl λI a w U=>?_;have U:=U.nf;generalize dD:(iy (kk+3) t.x.keys).2=k1 at U;have kR:k1=_:=dD.symm.trans (rS);refine ax λI a w U=>?_;refine U.o (be 0 eS dO .tt .tt rfl (λ_=>by first|omega|(simp only[List.length_set,List.length_map];omega))) λU=>?_;refine U.o .fv λU=>?_;refine U.bT (j:=4) 0 bS .tt .tt (by first|exact bA rfl|exact bE|exact bF|exact bG) rfl bk rfl rfl λa w U=>?_;refine aV λI a w U=>?_;refine U.o (ba .tt .c (λ_=>by first|omega|(simp only[List.length_set,List.length_map];omega))) λU=>?_;rw[show((k1:Nat):Int)+1=((k1+1:Nat):Int) from rfl] at U;refine aN λI a w U=>?_;refine U.o (be 0 eS dO .tt .tt rfl (λ_=>by first|omega|(simp only[List.length_set,List.length_map];omega))) λU=>?_;refine U.o .fv λU=>?_;refine U.o (fk (j:=5) 0 gp .tt rfl (λ_=>fm bk) rfl rfl rfl) λU=>?_;refine U.m λU=>?_;refine U.dB [3] (ji _ (k1+1) t.x.ctx (by rw[c7];omega)) (az .r (az .tt aP)) rfl aZ rfl λI a w U=>?_;have U:=U.nf;generalize dz:(ct (k1+1) t.x.ctx).2=k2 at U;have sv:k2=_:=dz.symm.trans (c7);refine ax λI a w U=>?_;refine U.o (be 0 eS dO .tt .tt rfl (λ_=>by first|omega|(simp only[List.length_set,List.length_map];omega))) λU=>?_;refine U.o .fv λU=>?_;refine U.bT (j:=6) 0 bS .tt .tt (by first|exact bA rfl|exact bE|exact bF|exact bG) rfl bk rfl rfl λa w U=>?_;refine aV λI a w U=>?_;refine U.o (ba .tt .c (λ_=>by first|omega|(simp only[List.length_set,List.length_map];omega))) λU=>?_;rw[show((k2:Nat):Int)+1=((k2+1:Nat):Int) from rfl] at U;refine ax λI a w U=>?_;refine U.o (be 0 eS dO .tt .tt rfl (λ_=>by first|omega|(simp only[List.length_set,List.length_map];omega))) λU=>?_;refine U.o .fv λU=>?_;refine U.bT (j:=7) 0 bS .tt .tt (by first|exact bA rfl|exact bE|exact bF|exact bG) rfl bk rfl rfl λa w U=>?_;refine aV λI a w U=>?_;refine U.o (ba .tt .c (λ_=>by first|omega|(simp only[List.length_set,List.length_map];omega))) λU=>?_;rw[show((k2+1:Nat):Int)+1=((k2+2:Nat):Int) from rfl] at U;refine ax λI a w U=>?_;refine U.o (oc .tt .c (λ_=>by first|omega|(simp only[List.length_set,List.length_map];omega))) λU=>?_;refine U.o .oM λU=>?_;refine U.o (be 0 eS dO .tt .tt rfl (λ_=>by first|omega|(simp only[List.length_set,List.length_map];omega))) λU=>?_;refine U.o .fv λU=>?_;refine U.bT (j:=8) 0 oP .tt .tt (by first|exact bA rfl|exact bE|exact bF|exact bG) rfl bk rfl rfl λa w U=>?_;refine aV λI a w U=>?_;refine U.o (ba .tt .c (λ_=>by first|omega|(simp only[List.length_set,List.length_map];omega))) λU=>?_;rw[show((k2+2:Nat):Int)+1=((k2+3:Nat):Int) from rfl] at U;refine ax λI a w U=>?_;refine U.o (be 0 eS dO .tt .tt rfl (λ_=>by first|omega|(simp only[List.length_set,List.length_map];omega))) λU=>?_;refine aL λI a w U=>?_;refine U.bT (j:=9) 0 bS .tt .tt (by first|exact bA rfl|exact bE|exact bF|exact bG) rfl bk rfl rfl λa w U=>?_;refine aV λI a w U=>?_;refine U.o (ba .tt .c (λ_=>by first|omega|(simp only[List.length_set,List.length_map];omega))) λU=>?_;rw[show((k2+3:Nat):Int)+1=((k2+4:Nat):Int) from rfl] at U;refine ax λI a w U=>?_;refine U.o (be 0 eS dO .tt .tt rfl (λ_=>by first|omega|(simp only[List.length_set,List.length_map];omega))) λU=>?_;refine aL λI a w U=>?_;refine U.bT (j:=10) 0 bS .tt .tt (by first|exact bA rfl|exact bE|exact bF|exact bG) rfl bk rfl rfl λa w U=>?_;refine aV λI a w U=>?_;refine U.o (ba .tt .c (λ_=>by first|omega|(simp only[List.length_set,List.length_map];omega))) λU=>?_;rw[show((k2+4:Nat):Int)+1=((k2+5:Nat):Int) from rfl] at U;refine aN λI a w U=>?_;refine U.o (be 0 eS dO .tt .tt rfl (λ_=>by first|omega|(simp only[List.length_set,List.length_map];omega))) λU=>?_;refine U.o .fv λU=>?_;refine U.o (fk (j:=11) 0 Cf .tt rfl (λ_=>fm bk) rfl rfl rfl) λU=>?_;refine U.m λU=>?_;refine U.dB [4] (DN _ (k2+5) t.aG (by rw[wF];omega)) (az .r (az .tt aP)) rfl aZ rfl λI a w U=>?_;have U:=U.nf;generalize fq:(aw eJ (k2+5) t.aG).2=k3 at U;have sw:k3=_:=fq.symm.trans (wF);refine aN λI a w U=>?_;refine U.o (be 0 eS dO .tt .tt rfl (λ_=>by first|omega|(simp only[List.length_set,List.length_map];omega))) λU=>?_;refine U.o .fv λU=>?_;refine U.o (fk (j:=12) 0 gp .tt rfl (λ_=>fm bk) rfl rfl rfl) λU=>?_;refine U.m λU=>?_;refine U.dB [5] (ji _ (k3) t.x.aR (by rw[c7];omega)) (az .r (az .tt aP)) rfl aZ rfl λI a w U=>?_;have U:=U.nf;generalize j0:(ct (k3) t.x.aR).2=k4 at U;have xG:k4=_:=j0.symm.trans (c7);refine aL λI a w U=>?_;refine U.o (ba .tt .c (λ_=>by first|omega|(simp only[List.length_set,List.length_map];omega))) λU=>?_;refine aq λI a w U=>?_;subst dD;subst dz;subst fq;subst j0;have U:=U.l4 hx hm bZ rfl rfl;refine U.again (i+1) ?bu ?bw bh ?bx (by repeat(first|exact Env.le_rfl|refine Env.cL rfl ?_));case bu=>omega
  case bw=>show i+1<=_;omega
  case bx=>exact(Env.aU rfl bh (Env.aU rfl (by exact congrArg AV.int (by rw[dS];(try rfl))) Env.le_nil))
 simp only[B,List.length_map,dR] at ab;refine zt ?_;refine aH λI a w U=>?_;have U:=U.l5 om;refine U.ir rfl (.cons (.t rfl) .nil) rfl ?_;rw[List.take_of_length_le om];rfl
def E4 (v:Value) (k:Nat) (l:List DT) (hb:(aw gZ k l).2<=1152921504606846976) (hl:l.length<=1152921504606846976):
 c5 prog 115 [AV.val v,AV.int (k:Nat)] [Own.seen KK v l] [Own.seen KK v (aw gZ k l).1] (AV.int ((aw gZ k l).2:Nat)):=by
 refine c5.intro 19 func115 rfl ntmps115 rfl aj (λW I a U=>?_);have U:=U.parts;refine aH λI a w U=>?_;refine St.lo (σ:=Nat) (1::(run 13 5 [])) ⟨λi=>[(5,AV.int i),(1,AV.int ((aw gZ k (l.take i)).2:Nat))],λi=>[Own.row v KK.seen 1 ((cw gZ k l i).map DT.cells),Own.many ((cw gZ k l i).map λx=>Own.many (DT.owns KK x))],λi=>i<=l.length⟩ (λi=>l.length-i) 0 U ?ar ?aW;case ar=>exact Nat.zero_le _
 rintro i I a w ak U;have iD:i<=l.length:=ak;dsimp only at U;refine aL λI a w U=>?_;refine U.o (iR 0 oV .tt rfl) λU=>?_;refine aq λI a w U=>?_;refine U.cd (λab=>?_) λab=>?_
 .simp only[B,List.length_map,dR] at ab;refine wp_skip<|bM<|wp_seq<|wp_block ?_;obtain⟨t,hx⟩:=get_some ab;obtain⟨m,hm,jP,U⟩:=U.l3 hx;generalize bZ:(aw gZ k (l.take i)).2=kk at U;obtain⟨dS,de⟩:=g7 (f:=gZ) (c:=λt=>3*t.x.length) (wG) hx bZ;change _<=(aw gZ k l).2 at de;dsimp only[DT.owns,List.cons_append,List.nil_append] at U;refine aL λI a w U=>?_;refine U.o (be 0 oV gp .tt .tt rfl (λ_=>by first|omega|(simp only[List.length_set,List.length_map];omega))) λU=>?_;refine U.o (fk (j:=0) 0 gp .tt rfl (λ_=>fm bk) rfl rfl rfl) λU=>?_;refine U.m λU=>?_;refine U.dB [2] (ji _ (kk) t.x (by rw[c7];omega)) (az .r (az .tt aP)) rfl aZ rfl λI a w U=>?_;have U:=U.nf;generalize dD:(ct (kk) t.x).2=k1 at U;have kR:k1=_:=dD.symm.trans (c7);refine aL λI a w U=>?_;refine U.o (ba .tt .c (λ_=>by first|omega|(simp only[List.length_set,List.length_map];omega))) λU=>?_;refine aq λI a w U=>?_;subst dD;have U:=U.l4 hx hm bZ rfl rfl;refine U.again (i+1) ?bu ?bw bh ?bx (by repeat(first|exact Env.le_rfl|refine Env.cL rfl ?_));case bu=>omega
  case bw=>show i+1<=_;omega
  case bx=>exact(Env.aU rfl bh (Env.aU rfl (by exact congrArg AV.int (by rw[dS];(try rfl))) Env.le_nil))
 simp only[B,List.length_map,dR] at ab;refine zt ?_;refine aH λI a w U=>?_;have U:=U.l5 om;refine U.ir rfl (.cons (.t rfl) .nil) rfl ?_;rw[List.take_of_length_le om];rfl
def xX (n:Int):
 Fn prog 175 [AV.int n] (AV.int (ff n)):=by
 refine Fn.go 8 func175 ntmps175 (λW I a U=>?_);refine aL λI a w U=>?_;refine U.o (.c1 (nm ..)) λU=>?_;refine aq λI a w U=>?_;refine cz (λab=>?_) λab=>?_
 .refine an ?_;exact aT (by simp[ff,ab])
 refine aV λI a w U=>?_;refine U.o (ob .tt .c (λ_=>by simp[il,aI] at ab;omega)) λU=>?_;refine an ?_;exact aT (by simp[ff,ab])
def E5 (n:Int):fE (n-10)=aI n 10 11:=by
 simp only[fE,aI];rw[Bool.eq_iff_iff];simp;omega
def E6 (l:List (cu)) (p:(cu)->Bool) (fv:AV) (hf:∀x:cu,x∈l->ga prog fv [x.av] (AV.bool (p x))):
 Fn prog 144 [iY l,fv] (AV.int (dI p l)):=by
 refine Fn.go 19 func144 ntmps144 (λW I a U=>?_);have hle:=U.cB (t:=0) rfl;refine bc λI a w U=>?_;refine St.lo (σ:=Nat) (run 2 4 (run 11 8 [])) ⟨λk=>[(8,AV.int k)],λk=>[],λk=>k<=l.length/\∀i,i<k->p (ae l i)=false⟩ (λk=>l.length-k) 0 U ?ar ?aW;case ar=>exact⟨Nat.zero_le _,λi hi=>by omega⟩
 rintro k I a w ak U;obtain⟨hk,au⟩:=ak;refine aq λI a w U=>?_;refine cz (λab=>?_) λab=>?_
 .refine gX λI a w U=>?_;refine U.o (mL (hf _ (ez ab)) .tt (az .tt aP)) λU=>?_;refine zt ?_;refine U.cd (λah=>?_) λah=>?_
  .refine bQ ?_;exact aT (jj ab au ah).symm
  refine aH λI a w U=>?_;exact U.ag (k+1) (⟨ab,λi h1=>by rcases Nat.lt_succ_iff_lt_or_eq.1 h1 with h|h;exact au i h;rw[h];exact ah⟩)
 refine zt ?_;refine an ?_;exact aT (iE om au).symm
def E7 (l:List (cu)) (p:(cu)->Bool) (fv:AV) (hf:∀x:cu,x∈l->ga prog fv [x.av] (AV.bool (p x))):
 Fn prog 67 [iY l,fv] (AV.bool (hasB p l)):=by
 refine Fn.go 9 func67 ntmps67 (λW I a U=>?_);refine aN λI a w U=>?_;refine U.o (.cl (E6 _ _ _ hf)) λU=>?_;refine bQ ?_;rfl
def xY (a:Answer):((a.yes&&(!eo a.bs||(a.bs.key !=a.key)))||(!a.yes&&!jR a.bs ma))=!kU a:=by
 unfold kU;cases a.yes<;>simp[bne]
def fT (d k:Call):Bool:=(d.bl==k.bl)&&!d.over&&((d.end_==0)||decide (k.cO<=d.end_))
def E8 {v:al} (h:eo v=true):bW v.key=true/\cZ v.aE=true/\cP v.aA=true:=by
 simp only[eo,Bool.and_eq_true] at h;exact⟨h.1.1.1.1.1.1,h.1.1.1.1.1.2,h.1.2⟩
def gx (s:Server) (l:List al) (i:Nat):Bool:=jQ s (ae l i).key !=0
def xZ (s:Server) (l:List al) (hl:s.cn.length=3) (hc:cJ l=true):
 Fn prog 173 [s.av,bN l] (AV.bool (bC l.length (gx s l))):=by
 refine Fn.go 20 func173 ntmps173 (λW I a U=>?_);have hle:=U.cB (t:=1) rfl;refine aK λI a w U=>?_;refine St.lo (σ:=Nat) (run 16 4 []) ⟨λk=>[(5,AV.int k)],λk=>[],λk=>k<=l.length/\∀i,i<k->(gx s l) i=true⟩ (λk=>l.length-k) 0 U ?ar ?aW;case ar=>exact⟨Nat.zero_le _,λi hi=>by omega⟩
 rintro k I a w ak U;obtain⟨jW,au⟩:=ak;refine bc λI a w U=>?_;refine cz (λab=>?_) λab=>?_
 .refine zt ?_;refine U.dk ?_;refine lS ?_;refine .o (.c2 (DU _ _ (sg (nv hc ab)) hl)) ?_;refine c6 ?_;refine .nil ?_;intro I a w U;refine bM ?_;refine U.cd (λah=>?_) λah=>?_
  .replace ah:=nt ah;refine an ?_;exact aQ (cF (f:=gx s l) ab ah).symm
  replace ah:=nf ah;refine aK λI a w U=>?_;exact U.ag (k+1) (⟨by omega,cT au ah⟩)
 refine zt ?_;refine an ?_;exact aQ (cD au om).symm
def E9 {a b:ay} (h:da a b=true):da b a=false:=by
 obtain⟨k,⟨t,s⟩⟩:=a;obtain⟨k',⟨t',s'⟩⟩:=b;simp[da,fO] at h⊢;omega
def VS (l:List al):Prop:=l.Pairwise λa b=>c4 a b=true
def Fa {l:List al} {d:ay} (h:placeOf l d<0):∀x∈l,x.cG≠d:=λx hx he=>by
 obtain⟨k,hk,rfl⟩:=kT hx;have:=sf h k hk;simp[eX] at this;exact this he
def Fb {l:List al} (h:cJ l=true):∀x∈l,eo x=true:=λx hx=>by
 obtain⟨k,hk,rfl⟩:=kT hx;exact nv h hk
def mg {l:List al} (h:cJ l=true):l.length<=80:=by
 unfold cJ at h;rw[Bool.and_eq_true,decide_eq_true_eq] at h;exact h.1
def Fc (l:List Int) (key:Int):
 Fn prog 321 [iZ l,AV.int key] (AV.int (dI (jS key) l)):=by
 refine Fn.go 19 func321 ntmps321 (λW I a U=>?_);have hle:=U.cB (t:=0) rfl;refine bc λI a w U=>?_;refine St.lo (σ:=Nat) (run 2 4 (run 11 8 [])) ⟨λk=>[(8,AV.int k)],λk=>[],λk=>k<=l.length/\∀i,i<k->jS key (ae l i)=false⟩ (λk=>l.length-k) 0 U ?ar ?aW;case ar=>exact⟨Nat.zero_le _,λi hi=>by omega⟩
 rintro k I a w ak U;obtain⟨hk,au⟩:=ak;refine aq λI a w U=>?_;refine cz (λab=>?_) λab=>?_
 .refine db λI a w U=>?_;refine U.cd (λah=>?_) λah=>?_
  .rw[show(key==ae l k)=jS key (ae l k) from Bool.beq_comm] at ah;refine bQ ?_;exact aT (jj ab au ah).symm
  rw[show(key==ae l k)=jS key (ae l k) from Bool.beq_comm] at ah;refine aH λI a w U=>?_;exact U.ag (k+1) (⟨by omega,λi h1=>by rcases Nat.lt_succ_iff_lt_or_eq.1 h1 with h|h;exact au i h;rw[h];exact ah⟩)
 refine zt ?_;refine an ?_;exact aT (iE om au).symm
def Fe (l:List Int) (key:Int):
 Fn prog 283 [iZ l,AV.int key] (AV.bool (gG l key)):=by
 refine Fn.go 9 func283 ntmps283 (λW I a U=>?_);refine aN λI a w U=>?_;refine U.o (.cl (Fc l key)) λU=>?_;refine bQ ?_;rfl
def x3 (q:Call):
 Fn prog 228 [q.av] (AV.bool (pk q)):=by
 refine Fn.go 10 func228 ntmps228 (λW I a U=>?_);refine m5 λI a w U=>?_;refine U.rt ?_;rfl
def x4 {d q:Call} (h:d.bl=q.bl):(!d.over&&((d.end_==0)||decide (q.cO<=d.end_)))=fT d q:=by
 unfold fT;rw[h];simp
def Ff {d q:Call} (h:¬d.bl=q.bl):fT d q=false:=by
 unfold fT;simp[h]
def jo {l:List al} (h:cJ l=true):∀v∈l,v.aA.length<=6:=λv hv=>si (E8 (Fb h v hv)).2.2
def nM (l:List Int):Nat:=l.length
def eL (m:cu):Nat:=dJ m.aA+gJ m.ao+gJ m.waits+dJ m.bV
def jq (l:List cu):Nat:=l.length+bY eL l
def dT (k:Call):Nat:=nM k.keys+dJ k.ctx+iG k.aG+dJ k.aR
def iJ (l:List Call):Nat:=l.length+bY dT l
def Fg (l:List Int) (left:Int) (h0:0<=left) (h1:left<=1048576):
 Fn prog 259 [iZ l,AV.int left] (AV.int (bq left (nM l))):=by
 refine Fn.go 12 func259 ntmps259 (λW I a U=>?_);have hle:=U.cB (t:=0) rfl;refine db λI a w U=>?_;refine cz (λab=>?_) λab=>?_
 .refine an ?_;exact aT (jm ab (Nat.le_refl _))
 refine bQ ?_;exact aT (su ab)
def Fh (x:cu) (left:Int) (h0:0<=left) (h1:left<=1048576):
 Fn prog 194 [x.av,AV.int left] (AV.int (bq left (eL x))):=by
 refine Fn.go 30 func194 ntmps194 (λW I a U=>?_);refine bJ λI a w U=>?_;refine U.o (.cl (jY _ _ h0 h1)) λU=>?_;refine aK λI a w U=>?_;refine cz (λab=>?_) λab=>?_
 .refine an ?_;exact aT (dh ab (by unfold eL;omega))
 refine aN λI a w U=>?_;refine U.o (.cl (py _ _ ab (eB h1))) λU=>?_;rw[eA ab] at U;refine aK λI a w U=>?_;refine cz (λah=>?_) λah=>?_
 .refine an ?_;exact aT (dh ah (by unfold eL;omega))
 refine aN λI a w U=>?_;refine U.o (.cl (py _ _ ah (eB h1))) λU=>?_;rw[eA ah] at U;refine aK λI a w U=>?_;refine cz (λai=>?_) λai=>?_
 .refine an ?_;exact aT (dh ai (by unfold eL;omega))
 refine aN λI a w U=>?_;refine U.o (.cl (jY _ _ ai (eB h1))) λU=>?_;rw[eA ai] at U;refine aK λI a w U=>?_;refine cz (λaF=>?_) λaF=>?_
 .refine an ?_;exact aT (dh aF (by unfold eL;omega))
 refine bQ ?_;exact aT rfl
def Fi (l:List (cu)) (left:Int) (h0:0<=left) (h1:left<=1048576):
 Fn prog 98 [iY l,AV.int left] (AV.int (bq left (jq l))):=by
 refine Fn.go 27 func98 ntmps98 (λW I a U=>?_);have hle:=U.cB (t:=0) rfl;refine db λI a w U=>?_;refine cz (λab=>?_) λab=>?_
 .refine an ?_;exact aT (jm ab (by unfold jq;omega))
 refine aq λI a w U=>?_;refine St.ju (σ:=Nat) (1::(run 2 4 (run 14 12 []))) ⟨λk=>[(5,AV.int k),(1,AV.int (bq left (l.length+bY eL (l.take k))))],λk=>[],λk=>k<=l.length/\0<=bq left (l.length+bY eL (l.take k))⟩ (λk=>l.length-k) 0 U rfl ?ar ?gw ?aW;case ar=>exact⟨Nat.zero_le _,by simp only[bq,bY,List.take_zero,List.map_nil,List.sum_nil];split<;>omega⟩
 case gw=>exact(Env.aU rfl bh (Env.aU rfl (by exact congrArg AV.int (by simp only[bq,bY,List.take_zero,List.map_nil,List.sum_nil];split<;>omega)) Env.le_nil))
 rintro k I a w ak U;obtain⟨hk,eY⟩:=ak;refine bc λI a w U=>?_;refine cz (λah=>?_) λah=>?_
 .refine bJ λI a w U=>?_;refine U.o (.c2 (Fh _ _ eY (eB h1))) λU=>?_;rw[eA eY] at U;refine aK λI a w U=>?_;refine U.cd (λai=>?_) λai=>?_
  .simp only[decide_eq_true_eq] at ai;refine an ?_;exact aT (dh ai (by have e1:=eC (f:=eL) ah;have e2:=jX (f:=eL) l (k+1);unfold jq;omega))
  simp only[decide_eq_false_iff_not,Int.not_lt] at ai;refine aK λI a w U=>?_;refine U.again (k+1) ?bu ?bw bh ?bx (by repeat(first|exact Env.le_rfl|refine Env.cL rfl ?_));case bu=>omega
  case bw=>exact⟨ah,by rw[eC ah,<-Nat.add_assoc];exact ai⟩
  case bx=>exact(Env.aU rfl bh (Env.aU rfl (by exact congrArg AV.int (by rw[eC ah,<-Nat.add_assoc])) Env.le_nil))
 refine zt ?_;refine bQ ?_;exact aT (by unfold jq;rw[List.take_of_length_le om])
def Fj (x:Call) (left:Int) (h0:0<=left) (h1:left<=1048576):
 Fn prog 195 [x.av,AV.int left] (AV.int (bq left (dT x))):=by
 refine Fn.go 30 func195 ntmps195 (λW I a U=>?_);refine bJ λI a w U=>?_;refine U.o (.cl (Fg _ _ h0 h1)) λU=>?_;refine aK λI a w U=>?_;refine cz (λab=>?_) λab=>?_
 .refine an ?_;exact aT (dh ab (by unfold dT;omega))
 refine aN λI a w U=>?_;refine U.o (.cl (jY _ _ ab (eB h1))) λU=>?_;rw[eA ab] at U;refine aK λI a w U=>?_;refine cz (λah=>?_) λah=>?_
 .refine an ?_;exact aT (dh ah (by unfold dT;omega))
 refine aN λI a w U=>?_;refine U.o (.cl (En _ _ ah (eB h1))) λU=>?_;rw[eA ah] at U;refine aK λI a w U=>?_;refine cz (λai=>?_) λai=>?_
 .refine an ?_;exact aT (dh ai (by unfold dT;omega))
 refine aN λI a w U=>?_;refine U.o (.cl (jY _ _ ai (eB h1))) λU=>?_;rw[eA ai] at U;refine aK λI a w U=>?_;refine cz (λaF=>?_) λaF=>?_
 .refine an ?_;exact aT (dh aF (by unfold dT;omega))
 refine bQ ?_;exact aT rfl
def Fk (l:List (Call)) (left:Int) (h0:0<=left) (h1:left<=1048576):
 Fn prog 99 [ja l,AV.int left] (AV.int (bq left (iJ l))):=by
 refine Fn.go 27 func99 ntmps99 (λW I a U=>?_);have hle:=U.cB (t:=0) rfl;refine db λI a w U=>?_;refine cz (λab=>?_) λab=>?_
 .refine an ?_;exact aT (jm ab (by unfold iJ;omega))
 refine aq λI a w U=>?_;refine St.ju (σ:=Nat) (1::(run 2 4 (run 14 12 []))) ⟨λk=>[(5,AV.int k),(1,AV.int (bq left (l.length+bY dT (l.take k))))],λk=>[],λk=>k<=l.length/\0<=bq left (l.length+bY dT (l.take k))⟩ (λk=>l.length-k) 0 U rfl ?ar ?gw ?aW;case ar=>exact⟨Nat.zero_le _,by simp only[bq,bY,List.take_zero,List.map_nil,List.sum_nil];split<;>omega⟩
 case gw=>exact(Env.aU rfl bh (Env.aU rfl (by exact congrArg AV.int (by simp only[bq,bY,List.take_zero,List.map_nil,List.sum_nil];split<;>omega)) Env.le_nil))
 rintro k I a w ak U;obtain⟨hk,eY⟩:=ak;refine bc λI a w U=>?_;refine cz (λah=>?_) λah=>?_
 .refine bJ λI a w U=>?_;refine U.o (.c2 (Fj _ _ eY (eB h1))) λU=>?_;rw[eA eY] at U;refine aK λI a w U=>?_;refine U.cd (λai=>?_) λai=>?_
  .simp only[decide_eq_true_eq] at ai;refine an ?_;exact aT (dh ai (by have e1:=eC (f:=dT) ah;have e2:=jX (f:=dT) l (k+1);unfold iJ;omega))
  simp only[decide_eq_false_iff_not,Int.not_lt] at ai;refine aK λI a w U=>?_;refine U.again (k+1) ?bu ?bw bh ?bx (by repeat(first|exact Env.le_rfl|refine Env.cL rfl ?_));case bu=>omega
  case bw=>exact⟨ah,by rw[eC ah,<-Nat.add_assoc];exact ai⟩
  case bx=>exact(Env.aU rfl bh (Env.aU rfl (by exact congrArg AV.int (by rw[eC ah,<-Nat.add_assoc])) Env.le_nil))
 refine zt ?_;refine bQ ?_;exact aT (by unfold iJ;rw[List.take_of_length_le om])
def Fl {H:Type} {enc:TypeId×Value->H} {W:World}:fo enc prog W cv.cells cv.Deep 272:=λn cs x h=>by
 obtain⟨xs,m,_,_,hl,hx,hf⟩:=DataW.trod_struct (show prog.underlying 272=some (.struct (prog.fieldsOf 272)) by kernel_rfl) h;rw[show prog.cellsOf 272=2 by kernel_rfl] at hl;obtain⟨y0,a0,b0⟩:=part (ft:=3) (off:=0) (s:=1) (i:=0) (cW (t:=3) aj) hx hf aj aj;obtain⟨y1,a1,b1⟩:=part (ft:=3) (off:=1) (s:=1) (i:=1) (cW (t:=3) aj) hx hf aj aj;exact⟨⟨y0,y1⟩,bt a0 (bt a1 (jh hl)),⟨b0,b1⟩⟩
end Go.Proofs.YtldbakcpcfdlaaaGreat
