/- Part 25: contracts of functions, plain facts. -/
import Derived.Test.YtldbakcpcfdlaaaGreatP20
import Derived.Test.YtldbakcpcfdlaaaGreatP22
import Derived.Test.YtldbakcpcfdlaaaGreatP29
set_option linter.all false
set_option maxRecDepth 100000
set_option maxHeartbeats 4000000
namespace Go.Proofs.YtldbakcpcfdlaaaGreat
open Go Go.RowKit Tryz
attribute [local irreducible] wpList Code.wp Ok
def MV (q:Call) (time:Int) (ht:time<=4611686018427387904):
 Fn prog 150 [q.av,AV.int time] (AV.bool (gf q time)):=by
 refine Fn.go 125 func150 ntmps150 (λW I a U=>?_);have lens:q.keys.length<=9223372036854775807/\q.au.length<=9223372036854775807/\q.aL.length<=9223372036854775807:=⟨U.ln 0 3,U.ln 0 11,U.ln 0 12⟩;refine bx λI a w U=>?_;refine U.o (.c1 (Db ..)) λU=>?_;refine bx λI a w U=>?_;refine U.q .F (.cl (jI ..)) λU=>?_;refine bx λI a w U=>?_;refine U.q .F (.cl (afE ..)) λU=>?_;refine bY λI a w U=>?_;refine U.q .F (.cl (jI ..)) λU=>?_;refine bY λI a w U=>?_;refine U.q .F (.cl (Dm ..)) λU=>?_;refine bY λI a w U=>?_;refine U.q .F (.cl (Dm ..)) λU=>?_;refine dZ λI a w U=>?_;refine U.q .F (.cl (jI ..)) λU=>?_;refine bY λI a w U=>?_;refine U.q .F (.cl (Tk ..)) λU=>?_;refine bx λI a w U=>?_;refine U.q .F (.cl (agt ..)) λU=>?_;refine aF λI a w U=>?_;refine U.cd (λae=>?_) λae=>?_
 .rw[Vb] at ae;replace ae:=nt ae;refine bf ?_;exact bB (by unfold gf;rw[ae];rfl)
 rw[Vb] at ae;replace ae:=nf ae;refine Fp λI a w U=>?_;refine U.q .T (lW .ag .ag (λhg=>by have:=ag9 ae;omega)) λU=>?_;refine Fp λI a w U=>?_;refine U.q .F2 (.cl (xh ..)) λU=>?_;refine aX λI a w U=>?_;refine U.cd (λah=>?_) λah=>?_
 .rw[SZ] at ah;replace ah:=nt ah;refine bf ?_;exact bB (by unfold gf;rw[ae,ah];rfl)
 rw[SZ] at ah;replace ah:=nf ah;refine aR λI a w U=>?_;refine cz (λaq=>?_) λaq=>?_
 .refine aG λI a w U=>?_;refine U.o (.c1 (xh ..)) λU=>?_;refine bf ?_;exact bB (by unfold gf oX;rw[ae,ah,if_pos aq];rfl)
 refine g9 λI a w U=>?_;refine U.q .F (lW .ag .c (λhg=>by have:=af9 ae;omega)) λU=>?_;refine U.q .F .mv λU=>?_;refine U.q .F (.cl (jI ..)) λU=>?_;refine pJ λI a w U=>?_;refine U.cd (λaK=>?_) λaK=>?_
 .refine bf ?_;exact bB (by unfold gf oX;rw[ae,ah,if_neg aq,aK];rfl)
 refine bx λI a w U=>?_;refine U.q .T (.cl (xh ..)) λU=>?_;refine g9 λI a w U=>?_;refine U.q .T2 (.cl (Tv ..)) λU=>?_;refine tO ?_;exact bB (by unfold gf oX;rw[ae,ah,if_neg aq,aK];rfl)
def V8 (l:List Call) (time:Int) (ht:time<=4611686018427387904) (hl:l.length<=1048576) (bq:∀q∈l,gV q.aj):
 Fn prog 73 [iL l,AV.int time] (AV.bool (jr l time)):=by
 refine Fn.go 86 func73 ntmps73 (λW I a U=>?_);refine aB λI a w U=>?_;refine U.makeMap rfl F3 λm7 a w U=>?_;rw[show(λ_:Int=>(0:Int))=fM l 0 from(Gc l).symm] at U;refine aX λI a w U=>?_;refine St.lo (σ:=Nat) (4::(run 2 6 (9::(run 70 13 [])))) ⟨λk=>[(13,AV.int k)],λk=>[Own.tM prog 3 3 (λx:Int=>Lit.int .i64 x) (λx:Int=>.lit (.int .i64 x)) 0 m7 (k) (fM l (k))],λk=>k<=l.length/\∀i,i<k->(nM l time) i=true⟩ (λk=>l.length-k) 0 U ?aI ?bF;case aI=>exact⟨Nat.zero_le _,λi hi=>by omega⟩
 rintro k I a w ao U;obtain⟨mU,aM⟩:=ao;refine aB λI a w U=>?_;refine cz (λae=>?_) λae=>?_
 .refine bk λI a w U=>?_;refine U.alloc rfl eJ im λb7 I a w U=>?_;refine aF λI a w U=>?_;obtain⟨I,U⟩:=U.fb 1 7;refine bk λI a w U=>?_;refine U.o (JB 0 F3 .tt (JC oG .tt (bq _ (bh ae))) rfl) λU=>?_;refine U.o (lW .tt .c (λ_=>by have:=Dc l k (ab l k).aj;omega)) λU=>?_;refine U.mapUpdate 0 F3 .tt (JC oG .tt (bq _ (bh ae))) .tt (by have:=Dc l k (ab l k).aj;omega) om rfl λa w U=>?_;rw[ady ae] at U;refine nn<|wp_seq<|wp_seq<|U.dk ?_;refine cG ?_;refine .o (.c2 (MV _ _ ht)) ?_;refine pL ?_;refine iA ?_;refine .q .F (JB 0 F3 .ag (JC oG .ag (bq _ (bh ae))) rfl) ?_;refine cG ?_;refine .nil ?_;intro I a w U;refine bm ?_;refine U.cd (λah=>?_) λah=>?_
  .rw[Vd] at ah;replace ah:=nt ah;refine bf ?_;exact bB (by unfold jr;rw[eI (f:=nM l time) ae (by unfold nM;rw[ah];rfl)];rfl)
  rw[Vd] at ah;replace ah:=nf ah;refine aG λI a w U=>?_;refine U.o (B5 mR eJ .r .tt (λ_=>by rw[List.length_map];omega)) λU=>?_;rw[<-List.map_take,Int.toNat_natCast] at U;have j7:(l.take k).length=k:=by simp;omega
  refine aF λI a w U=>?_;refine St.lo (σ:=Nat) (4::(9::(run 27 55 []))) ⟨λk2=>[(55,AV.int k2)],λk2=>[Own.tM prog 3 3 (λx:Int=>Lit.int .i64 x) (λx:Int=>.lit (.int .i64 x)) 0 m7 (k+1) (fM l (k+1)),Own.gone],λk2=>k2<=k/\∀i,i<k2->(λj=>!mH (ab l j) (ab l k)) i=true⟩ (λk2=>k-k2) 0 U ?eo ?jK;case eo=>exact⟨Nat.zero_le _,λi hi=>by omega⟩
  rintro k2 I a w ao U;obtain⟨xu,iZ⟩:=ao;refine aB λI a w U=>?_;refine cz (λaq=>?_) λaq=>?_
  .refine aG λI a w U=>?_;refine U.alloc rfl eJ im λb9 I a w U=>?_;refine aB λI a w U=>?_;obtain⟨I,U⟩:=U.fb 2 9;refine aav λI a w U=>?_;refine U.cd (λaK=>?_) λaK=>?_
   .change mH (ab (l.take k) k2) (ab l k)=true at aK;rw[Ss om] at aK;refine bf ?_;exact bB (by unfold jr;rw[eI (f:=nM l time) ae (by unfold nM;rw[eI (f:=λj=>!mH (ab l j) (ab l k)) (k:=k2) om (by rw[aK];rfl)];simp)];rfl)
   change mH (ab (l.take k) k2) (ab l k)=false at aK;rw[Ss om] at aK;refine aF λI a w U=>?_;have U:=U.drop 2;exact U.ag (k2+1) (⟨by omega,eY iZ (by rw[aK];rfl)⟩)
  refine zt ?_;refine aF λI a w U=>?_;have U:=U.drop 1;exact U.ag (k+1) (⟨by omega,eY aM (by unfold nM;rw[ah,eX iZ om];rfl)⟩)
 refine zt ?_;refine aX λI a w U=>?_;refine U.rt ?_;exact bB (by unfold jr;rw[eX aM om,ac2];rfl)
def zx (x:ai) (hf:x.Fit) (hl:x.calls.length<=1048576):
 Fn prog 23 [x.av] (AV.bool (cK x)):=by
 refine Fn.go 62 func23 ntmps23 (λW I a U=>?_);have lens:x.aC.length<=9223372036854775807/\x.al.length<=9223372036854775807/\x.calls.length<=9223372036854775807/\x.seen.length<=9223372036854775807:=⟨U.ln 0 1,U.ln 0 2,U.ln 0 3,U.ln 0 4⟩;refine bx λI a w U=>?_;refine U.o (.cl (jI ..)) λU=>?_;refine Q2 λI a w U=>?_;refine U.cd (λae=>?_) λae=>?_
 .replace ae:oQ x=false:=by unfold oQ;rw[ae];rfl
  refine bf ?_;exact bB (by unfold cK;rw[ae];rfl)
 replace ae:oQ x=true:=by unfold oQ;rw[ae];rfl
 refine aX λI a w U=>?_;refine St.lo (σ:=Nat) (run 3 2 (run 15 30 [])) ⟨λk=>[(30,AV.int k)],λk=>[],λk=>k<=x.aC.length/\∀i,i<k->(sD x) i=true⟩ (λk=>x.aC.length-k) 0 U ?aI ?bF;case aI=>exact⟨Nat.zero_le _,λi hi=>by omega⟩
 rintro k I a w ao U;obtain⟨mU,aM⟩:=ao;refine aB λI a w U=>?_;refine cz (λah=>?_) λah=>?_
 .refine bk λI a w U=>?_;refine U.alloc rfl cA dS λb4 I a w U=>?_;refine aF λI a w U=>?_;obtain⟨I,U⟩:=U.fb 0 4;refine dZ λI a w U=>?_;refine U.q .F (.cl (zl ..)) λU=>?_;refine aF λI a w U=>?_;refine U.cd (λaq=>?_) λaq=>?_
  .rw[L5] at aq;replace aq:=nt aq;refine bf ?_;exact bB (by unfold cK;rw[eI (f:=sD x) ah aq];simp)
  rw[L5] at aq;replace aq:=nf aq;refine aF λI a w U=>?_;have U:=U.drop 0;exact U.ag (k+1) (⟨by omega,eY aM aq⟩)
 refine zt ?_;refine aG λI a w U=>?_;refine U.o (.cl (adV x.al yP _ (λm hm=>Fn.wE (aha m (hf.1 m hm).1 (hf.1 m hm).2)))) λU=>?_;refine bx λI a w U=>?_;refine U.q .T (.cl (adW x.seen yA _ (λm _=>Fn.wE (afF m)))) λU=>?_;refine g9 λI a w U=>?_;refine U.q .T (bO (V8 x.calls x.time (by have:=Su ae;omega) hl hf.2) (ax .ag (ax .ag aH))) λU=>?_;refine c8 ?_;exact bB (by unfold cK;rw[ae,eX aM om];rfl)
def aih (q:Call) (t:Int) (hq:gf q t=true) (ht:q.bH+q.end_<=4611686018427387904) (hl:-4611686018427387904<=q.end_) (nO:q.au.length<=1048576):
 Fn prog 308 [q.av] (bE (gJ q)):=by
 refine Fn.go 68 func308 ntmps308 (λW I a U=>?_);have lens:q.keys.length<=9223372036854775807/\q.au.length<=9223372036854775807/\q.aL.length<=9223372036854775807:=⟨U.ln 0 3,U.ln 0 11,U.ln 0 12⟩;have hp:=ze hq;have iv:=(pY (acc:=[]) rfl hp.2.1).1;have eH:=Ms hq;have hc6:=iV hp.1;have hjo:bT (iX q.ctx (fT q))=true:=zb hp.1 λd hd=>qN iv hd;have fL:=ag8 hp.1 hp.2.1;refine mz λI a w U=>?_;refine U.o (.c2 (G7 _ _ ht nO)) λU=>?_;refine aB λI a w U=>?_;refine U.cd (λae=>?_) λae=>?_
 .exfalso;rw[eH] at ae;cases ae;skip
 refine zt ?_;refine U.l0 λux I a w U=>?_;refine aG λI a w U=>?_;refine U.ap 0 λv17 a w U=>?_;obtain⟨I,U⟩:=U.fr 0 17;have U:=U.drop 0;refine aX λI a w U=>?_;refine cz (λah=>?_) λah=>?_
 .refine c8 ?_;exact congrArg bE (by unfold gJ;rw[if_pos ah])
 refine aR λI a w U=>?_;refine cz (λaq=>?_) λaq=>?_
 .refine wp_seq<|U.dk ?_;refine dO ?_;refine .o ((by first|exact ff kR jH .tt .c (λ_=>by have:=yS hp.2.2.1 aq;omega)|exact iT kR jH .tt .c (λ_=>by have:=yS hp.2.2.1 aq;omega)|exact je kR jH .tt .c (λ_=>by have:=yS hp.2.2.1 aq;omega))) ?_;refine dO ?_;refine .o (.bd gX (.k (.t aZ.nil))) ?_;refine .o (.cl (LF _ ⟨ab q.keys 0,q.ar⟩ hp.1 (agb hq aq ah))) ?_;refine bG ?_;refine .nil ?_;intro I a w U;refine zt ?_;refine U.rt ?_;exact congrArg bE (by unfold gJ;rw[if_neg ah,if_pos aq])
 refine aG λI a w U=>?_;refine U.o (.c1 (agu _ hp.2.1)) λU=>?_;refine U.o (.cl (Mz _ _ hp.1 iv)) λU=>?_;refine aF λI a w U=>?_;refine St.lo (σ:=Nat) (run 2 3 (run 29 38 [])) ⟨λk=>[(4,AV.int k),(3,bE ((q.au.take k).foldl ub (iX q.ctx (fT q))))],λk=>[],λk=>k<=q.au.length⟩ (λk=>q.au.length-k) 0 U ?aI ?bF;case aI=>exact Nat.zero_le _
 rintro k I a w ao U;have hk:k<=q.au.length:=ao;refine cF λI a w U=>?_;refine cz (λaK=>?_) λaK=>?_
 .refine iM λI a w U=>?_;refine cz (λaS=>?_) λaS=>?_
  .refine U.dk ?_;refine tP ?_;refine .o (.bd gX (.k (.t aZ.nil))) ?_;refine .o (bO (LF _ ⟨(ab q.au k).key,(ab q.au k).aY.ar⟩ (G6 hjo (yI hp.2.1 k)).1 (by have:=AO (hp.2.1 _ (bh aK)) aS;rw[<-this.2];exact this.1)) (ax .r (ax (.t rfl) aH))) ?_;refine bG ?_;refine .nil ?_;intro I a w U;refine aR λI a w U=>?_;refine U.again (k+1) ?hO ?hP dR ?hZ (by repeat(first|exact Env.le_rfl|refine Env.iy rfl ?_));case hO=>omega
   case hP=>exact aK
   case hZ=>exact(Env.dA rfl dR (Env.dA rfl (by exact congrArg bE (by rw[yR aK];unfold ub;rw[aS];rfl)) Env.le_nil))
  refine aR λI a w U=>?_;refine U.again (k+1) ?mV ?mW dR ?mX (by repeat(first|exact Env.le_rfl|refine Env.iy rfl ?_));case mV=>omega
  case mW=>exact aK
  case mX=>exact(Env.dA rfl dR (Env.dA rfl (by exact congrArg bE (by rw[yR aK];unfold ub;rw[aS];rfl)) Env.le_nil))
 refine zt ?_;refine c8 ?_;exact congrArg bE (by rw[List.take_of_length_le om,<-fL];unfold LP;rw[if_neg ah,if_neg aq])
def aij (x:ai) (hf:x.Fit) (hl:x.calls.length<=1048576):
 Fn prog 35 [x.av] (AV.bool (qZ x)):=by
 refine Fn.go 56 func35 ntmps35 (λW I a U=>?_);have lens:x.aC.length<=9223372036854775807/\x.al.length<=9223372036854775807/\x.calls.length<=9223372036854775807/\x.seen.length<=9223372036854775807:=⟨U.ln 0 1,U.ln 0 2,U.ln 0 3,U.ln 0 4⟩;refine bk λI a w U=>?_;refine U.o (.c1 (zx _ hf hl)) λU=>?_;refine aB λI a w U=>?_;refine U.cd (λae=>?_) λae=>?_
 .replace ae:=nt ae;refine bf ?_;exact bB (by unfold qZ;rw[ae];rfl)
 replace ae:=nf ae;refine aX λI a w U=>?_;refine St.lo (σ:=Nat) (run 5 2 (run 43 13 [])) ⟨λk=>[(13,AV.int k)],λk=>[],λk=>k<=x.calls.length/\∀i,i<k->(qY x) i=true⟩ (λk=>x.calls.length-k) 0 U ?aI ?bF;case aI=>exact⟨Nat.zero_le _,λi hi=>by omega⟩
 rintro k I a w ao U;obtain⟨mU,aM⟩:=ao;refine aB λI a w U=>?_;refine cz (λah=>?_) λah=>?_
 .refine bk λI a w U=>?_;refine U.alloc rfl eJ im λb4 I a w U=>?_;refine aF λI a w U=>?_;obtain⟨I,U⟩:=U.fb 0 4;have hp:=Mu ae;have A8:=hp.2.2.2.2.1 _ (bh ah);have Hh:=ze A8;have wI:=agc A8 hp.1.1;refine bY λI a w U=>?_;refine U.q .T (.cl (agv _ Hh.1 Hh.2.1)) λU=>?_;refine aF λI a w U=>?_;refine U.cd (λaq=>?_) λaq=>?_
  .refine bf ?_;exact bB (by unfold qZ;rw[eI (f:=qY x) ah (agd x k aq)];simp)
  refine Cx λI a w U=>?_;refine U.o (E0 mR eJ .r .tt (λ_=>by rw[List.length_map];omega)) λU=>?_;rw[<-List.map_drop,show((k:Int)+1).toNat=k+1 by omega] at U;refine U.o (nu (ax .tt aH)) λU=>?_;refine U.o (.cl (Sn (x.calls.drop (k+1)) (m9 (ab x.calls k).aj) _ (λd _=>Fn.val (ad1 d (ab x.calls k))))) λU=>?_;refine aR λI a w U=>?_;refine cz (λaK=>?_) λaK=>?_
  .refine bY λI a w U=>?_;refine U.o (lW .tt .tt (λ_=>by have:=Dn (m9 (ab x.calls k).aj) (x.calls.drop (k+1));simp at this;change 0<=iF x.calls k (ab x.calls k).aj at aK;unfold iF at*;omega)) λU=>?_;refine U.o ((by first|exact ff mR eJ .tt .tt (λ_=>by have:=Dn (m9 (ab x.calls k).aj) (x.calls.drop (k+1));simp at this;change 0<=iF x.calls k (ab x.calls k).aj at aK;unfold iF at*;omega)|exact iT mR eJ .tt .tt (λ_=>by have:=Dn (m9 (ab x.calls k).aj) (x.calls.drop (k+1));simp at this;change 0<=iF x.calls k (ab x.calls k).aj at aK;unfold iF at*;omega)|exact je mR eJ .tt .tt (λ_=>by have:=Dn (m9 (ab x.calls k).aj) (x.calls.drop (k+1));simp at this;change 0<=iF x.calls k (ab x.calls k).aj at aK;unfold iF at*;omega))) λU=>?_;refine bx λI a w U=>?_;refine U.o (.c1 (ML _ _ A8)) λU=>U.m λU=>?_;refine U.o (.cl (UQ ..)) λU=>?_;refine aB λI a w U=>?_;refine U.cd (λaS=>?_) λaS=>?_
   .replace aS:=nt aS;rw[Tz aK] at aS;refine bf ?_;exact bB (by unfold qZ;rw[eI (f:=qY x) ah (Vj x k aS)];simp)
   replace aS:=nf aS;rw[Tz aK] at aS;refine aF λI a w U=>?_;have U:=U.drop 0;exact U.ag (k+1) (⟨by omega,eY aM (Vi x k aq (by first|exact aS|exact bA))⟩)
  refine bD λI a w U=>?_;refine U.o (.c1 (ML _ _ A8)) λU=>U.m λU=>?_;refine U.o (.cl (UQ ..)) λU=>?_;refine aB λI a w U=>?_;refine U.cd (λbA=>?_) λbA=>?_
  .replace bA:=nt bA;rw[TA aK] at bA;refine bf ?_;exact bB (by unfold qZ;rw[eI (f:=qY x) ah (Vj x k bA)];simp)
  replace bA:=nf bA;rw[TA aK] at bA;refine aF λI a w U=>?_;have U:=U.drop 0;exact U.ag (k+1) (⟨by omega,eY aM (Vi x k aq (by first|exact aS|exact bA))⟩)
 refine zt ?_;refine bf ?_;exact bB (by unfold qZ;rw[ae,eX aM om];rfl)
def aik {s:Server} {m:az} (h:bJ s) (hm:bK m=true):bJ (gC s m).1:=by
 unfold gC;split
 .rename_i hc;simp only[Bool.and_eq_true,decide_eq_true_eq] at hc;split
  .exact h
  split
  .rename_i hk;simp only[Bool.and_eq_true,decide_eq_true_eq] at hk;obtain⟨a1,a2,a3⟩:=DP h hm hk.1.1;exact(h.put hk.1.2 (by rw[a1]) (by show cP s m.key≠0;rw[(yK hc.2).2];omega) hk.2).settle
  exact h
 exact h
def MW {s:Server} {m:az} (h:bJ s) (hm:bK m=true) (hu:s.up=true):bJ (dh s m).1:=by
 unfold dh;repeat' split
 .exact aik h hm
 .exact h
 .exact age h
 .exact Uw h
 .exact h
 .exact agw h hu
 .exact agy h
 .exact agx h hm
 exact h
def ail {s:Server} {m:az} (h:bJ s):bJ (cN s m).1:=by
 unfold cN;split
 .rename_i hc;simp only[Bool.and_eq_true] at hc;exact MW h hc.1.2 hc.1.1
 exact h
def MX {s:Server} {m:az} (h:bJ s) (hm:bK m=true):∀w∈(dh s m).2,bK w=true:=by
 unfold dh;repeat' split
 .exact ahc h hm
 .exact agz h hm
 .exact agA h hm
 .intro w hw;simp at hw
 .exact aeQ h hm
 .intro w hw;simp at hw
 .exact agB h hm
 .intro w hw;simp at hw
 intro w hw;simp at hw
def V9 {s:Server} {m:az} (h:bJ s):∀w∈(cN s m).2,bK w=true:=by
 unfold cN;split
 .rename_i hc;simp only[Bool.and_eq_true] at hc;exact MX h hc.1.2
 intro w hw;simp at hw
def Bo {q:Call} {m:az} {t:Int} (h:dJ q t):dJ (cQ q m t) t:=by
 unfold cQ;split
 .rename_i hc;simp only[Bool.and_eq_true,decide_eq_true_eq] at hc;obtain⟨⟨⟨⟨⟨hm,_⟩,_⟩,gH⟩,hw⟩,hb⟩:=hc;obtain⟨he,ho⟩:=oZ hw;split
  .rename_i hk;split
   .rename_i U;obtain⟨hg,uz⟩:=h.put hk;exact⟨h.aj,h.num,h.keys,h.val,h.ctx,h.aL,h.bH,C3 U.2,h.has,h.sorted,h.aN,h.xA,h.full,h.put,λe=>absurd hk e,λe=>by have:t=0:=e;have:=h.bH;omega,
     λ_=>⟨ho,⟨by show q.bH+1<=t;omega,Int.le_refl _⟩,uz,λ_=>Sc U.2,λe=>absurd hk e⟩⟩
   exact h
  rename_i hk;unfold iw;split
  .rename_i hr;have hg:=Dh (q:=q) hm hr.2;split
   .rename_i hn;split
    .exact h.mb hw hb hk hg gH hn
    exact h
   split
   .rename_i hy;exact h.lu hw hb hk hg hy
   exact h
  exact h
 exact h
def aim (s:Server) (hg:bJ s):
 Fn prog 237 [s.av] (dM (ic s)):=by
 refine Fn.go 129 func237 ntmps237 (λW I a U=>?_);have U:=U.ik (sz:=15) 108;have U:=U.ik (sz:=3) 125;have ao:=jX.2 hg;have dq:=hg.ok;have ja:=hg.small;have lens:s.aD.length<=9223372036854775807/\s.an.length<=9223372036854775807/\s.waits.length<=9223372036854775807/\s.aE.length<=9223372036854775807/\s.ba.length<=9223372036854775807:=⟨U.ln 0 2,U.ln 0 3,U.ln 0 4,U.ln 0 5,U.ln 0 6⟩;have h3:=hg.aD;have CN:=ga hg.an;have lP:=ga hg.waits;have lF:=iP hg.aE;have sY:∀v∈s.waits,v.aQ.length<=6:=λv hv=>iV (iW (fw hg.waits v hv)).2.2;have hsd:=ue hg.site;refine bk λI a w U=>?_;refine U.o (.c1 (zl s)) λU=>?_;refine iM λI a w U=>?_;refine U.cd (λae=>?_) λae=>?_
 .rw[F9] at ae;replace ae:=nt ae;refine aB λI a w U=>?_;refine U.ret rfl (.cons (.nil (sz:=15) rfl) aV.nil) ?_;exact(by rw[ao,Bool.true_and] at ae;rw[VP ae];rfl)
 rw[F9] at ae;replace ae:=nf ae;rw[Bool.and_eq_true] at ae;refine cF λI a w U=>?_;refine St.lo (σ:=Nat×Value) (run 3 3 (run 15 27 [])) ⟨λ⟨n,v⟩=>[(27,AV.int n),(3,AV.val v)],λ⟨n,v⟩=>[Own.row v 108 15 ((pW s n).map az.cells),Own.row (.slice none 0 0) 125 3 ([])],λ⟨n,v⟩=>n<=s.aD.length⟩ (λ⟨n,v⟩=>s.aD.length-n) (0,(.slice none 0 0)) U ?aI ?bF;case aI=>exact Nat.zero_le _
 rintro⟨n,v⟩ I a w ao U;have hn:n<=s.aD.length:=ao;dsimp only at U;refine aB λI a w U=>?_;refine cz (λah=>?_) λah=>?_
 .refine bk λI a w U=>?_;refine U.alloc rfl fh oF λb5 I a w U=>?_;refine aF λI a w U=>?_;obtain⟨I,U⟩:=U.fb 2 5;refine aR λI a w U=>?_;refine cz (λaq=>?_) λaq=>?_
  .refine bk λI a w U=>?_;refine U.o (bO (UF s (n:Int) ja hg.site h3 om) (ax (.t rfl) (ax (.t rfl) aH))) λU=>?_;refine U.o (.li [(gS s (n:Int)).cells] iN (.u .nil)) λU=>?_;refine U.append 0 rfl gA dV rfl .tt .r rfl (by have:=LU s n;simp;omega) λTu a w U=>?_;rw[cJ,UG (by simpa using aq)] at U;refine aR λI a w U=>?_;have U:=U.drop 2;exact U.ag (n+1,Tu) (ah)
  refine aF λI a w U=>?_;have U:=U.drop 2;rw[UH (by simpa using aq)] at U;exact U.ag (n+1,v) (ah)
 refine wp_exit<|cB<|cB<|fo<|bm<|wp_seq ?_;rw[VQ om] at U;refine aG λI a w U=>?_;refine U.o (.c1 (AU _)) λU=>U.o .JK λU=>?_;refine U.o (mi .c .tt (λ_=>by omega)) λU=>?_;refine aB λI a w U=>?_;rw[show 2*(1-bM s.site)=2-2*bM s.site by omega] at U;refine aX λI a w U=>?_;refine St.lo (σ:=Nat×Value) (3::(run 3 8 (run 35 50 []))) ⟨λ⟨k,v⟩=>[(50,AV.int k),(3,AV.val v)],λ⟨k,v⟩=>[Own.row v 108 15 ((jO s k).map az.cells),Own.row (.slice none 0 0) 125 3 ([])],λ⟨k,v⟩=>k<=s.aE.length⟩ (λ⟨k,v⟩=>s.aE.length-k) (0,v) U ?eo ?jK;case eo=>exact Nat.zero_le _
 rintro⟨k,v⟩ I a w ao U;have hk:k<=s.aE.length:=ao;dsimp only at U;refine aB λI a w U=>?_;refine cz (λaK=>?_) λaK=>?_
 .refine aG λI a w U=>?_;refine U.alloc rfl cW gX λb8 I a w U=>?_;refine aB λI a w U=>?_;obtain⟨I,U⟩:=U.fb 2 8;refine bk λI a w U=>?_;refine U.o (.c2 (AX s (ab s.aE k).key h3)) λU=>?_;refine aB λI a w U=>?_;refine U.cd (λaS=>?_) λaS=>?_
  .replace aS:=nt aS;refine zt ?_;refine aF λI a w U=>?_;have U:=U.drop 2;rw[ahk aK aS (adK hg (bh aK))] at U;exact U.ag (k+1,v) (aK)
  replace aS:=nf aS;refine zt ?_;obtain⟨vd,uv,zn,jD⟩:=SJ hg (bh aK);obtain⟨qw,DT,Wa⟩:=adf uv;refine U.da 9 ?_;simp only[TD];refine fZ ?_;refine .o (.cl (oH s.an (ab s.aE k))) ?_;refine cG ?_;refine gW.alloc bL ee<|.nil ?_;intro I a w U;obtain⟨b9,U⟩:=U.u6 (d:=9) rfl;refine aB λI a w U=>?_;obtain⟨I,U⟩:=U.fb 3 9;rw[Wa] at U;rw[show jO s k=jO s k++(jN s (ab s.aE k)).take 0 from by simp] at U;refine aF λI a w U=>?_;refine St.lo (σ:=Nat×Int×Value) (3::(10::(run 16 68 []))) ⟨λ⟨j,t,v2⟩=>[(10,AV.int t),(3,AV.val v2)],λ⟨j,t,v2⟩=>[Own.row v2 108 15 ((jO s k++(jN s (ab s.aE k)).take j).map az.cells),Own.row (.slice none 0 0) 125 3 ([]),Own.gone,Own.gone],λ⟨j,t,v2⟩=>j<=2/\t=2-2*bM s.site+(j:Int)⟩ (λ⟨j,t,v2⟩=>2-j) (0,2-2*bM s.site,v) U ?iD ?od;case iD=>exact⟨Nat.zero_le _,by simp⟩
  rintro⟨j,t,v2⟩ I a w ao U;obtain⟨hj,rfl⟩:=ao;dsimp only at U;refine aX λI a w U=>?_;refine cz (λbA=>?_) λbA=>?_
  .refine bY λI a w U=>?_;refine U.o (.li [vd.cells] mB (.u .nil)) λU=>?_;refine U.o (.bd eU (.k (.k (.k (.k aZ.nil))))) λU=>?_;refine U.o (.c1 (Dz {cn with kind:=5,aT:=s.site,to:=2-2*bM s.site+(j:Int),an:=[vd]} (afN (ja.2.1.2 vd jD)))) λU=>?_;refine U.o (.li [({cn with kind:=5,aT:=s.site,to:=2-2*bM s.site+(j:Int),an:=[vd]}:az).cells] iN (.u .nil)) λU=>?_;refine U.append 0 rfl gA dV rfl .tt .r rfl (by have:=Bl s k hk;simp;omega) λUg a w U=>?_;rw[cJ,VT (yK aS).2 uv om] at U;refine aX λI a w U=>?_;exact U.ag (j+1,2-2*bM s.site+(j:Int)+1,Ug) (⟨by show j+1<=2;omega,by simp;omega⟩)
  refine zt ?_;refine aF λI a w U=>?_;have U:=U.drop 2;rw[VU aK om] at U;exact U.ag (k+1,v2) (aK)
 refine zt ?_;refine aB λI a w U=>?_;rw[VR om] at U;refine aX λI a w U=>?_;refine St.lo (σ:=Nat×Value×Value) (3::(11::(13::(15::(run 40 88 []))))) ⟨λ⟨i,v,u⟩=>[(88,AV.int i),(3,AV.val v),(11,AV.val u)],λ⟨i,v,u⟩=>[Own.row v 108 15 ((pd s (ot s i)).map az.cells),Own.row u 125 3 ((ot s i).map aw.cells)],λ⟨i,v,u⟩=>i<=s.waits.length⟩ (λ⟨i,v,u⟩=>s.waits.length-i) (0,v,(.slice none 0 0)) U ?zq ?MR;case zq=>exact Nat.zero_le _
 rintro⟨i,v,u⟩ I a w ao U;have hi:i<=s.waits.length:=ao;dsimp only at U;refine aB λI a w U=>?_;refine cz (λbt=>?_) λbt=>?_
 .refine aG λI a w U=>?_;refine U.alloc rfl bL ee λG5 I a w U=>?_;refine aB λI a w U=>?_;obtain⟨I,U⟩:=U.fb 2 13;refine aX λI a w U=>?_;refine St.lo (σ:=Nat×Value×Value) (3::(11::(15::(run 32 95 [])))) ⟨λ⟨j,v2,u2⟩=>[(95,AV.int j),(3,AV.val v2),(11,AV.val u2)],λ⟨j,v2,u2⟩=>[Own.row v2 108 15 ((pd s (j0 s i j)).map az.cells),Own.row u2 125 3 ((j0 s i j).map aw.cells),Own.gone],λ⟨j,v2,u2⟩=>j<=(ab s.waits i).aQ.length⟩ (λ⟨j,v2,u2⟩=>(ab s.waits i).aQ.length-j) (0,v,u) U ?MS ?ahO;case MS=>exact Nat.zero_le _
  rintro⟨j,v2,u2⟩ I a w ao U;have hj:j<=(ab s.waits i).aQ.length:=ao;have hdj:=sY _ (bh bt);dsimp only at U;refine aB λI a w U=>?_;refine cz (λcr=>?_) λcr=>?_
  .refine aG λI a w U=>?_;refine U.alloc rfl cW gX λLf I a w U=>?_;refine aB λI a w U=>?_;obtain⟨I,U⟩:=U.fb 3 15;refine aG λI a w U=>?_;refine U.o (.c2 (RU s (ab (ab s.waits i).aQ j))) λU=>?_;refine bx λI a w U=>?_;refine U.q .T (Fk 1 (ax .ag (ax .ag aH)) rfl (CR (j0 s i j) (ab (ab s.waits i).aQ j)) (λ_ _ _ h=>h)) λU=>?_;refine aF λI a w U=>?_;refine U.cd (λdC=>?_) λdC=>?_
   .rw[TR] at dC;refine aG λI a w U=>?_;refine U.o (.li [(ab (ab s.waits i).aQ j).cells] jk (.u .nil)) λU=>?_;refine U.append 1 rfl dX cW rfl .tt .r rfl (by have:=AZ sY i hi;have:=Dw s i j;have:=sY _ (bh bt);simp;omega) λain a w U=>?_;rw[cJ,show j0 s i j++[(ab (ab s.waits i).aQ j)]=j0 s i (j+1) from by rw[AY cr,Gq dC]] at U;refine aB λI a w U=>?_;refine U.dt 12 ?_;simp only[TD];refine fZ ?_;refine .o (.c1 (KF _ hg.site)) ?_;refine eb ?_;refine .o (.bd eU (.k (.k (.k (.k (.t aZ.nil)))))) ?_;refine .o (.li [(nb s (ab (ab s.waits i).aQ j)).cells] iN (.u .nil)) ?_;refine .nil ?_;intro I a w U;refine U.append 0 rfl gA dV rfl .tt .r rfl (by have:=AZ sY i hi;have:=Dw s i j;have:=sY _ (bh bt);have:=Bl s _ (Nat.le_refl s.aE.length);simp[pd];omega) λaio a w U=>?_;rw[cJ,VN,show j0 s i j++[(ab (ab s.waits i).aQ j)]=j0 s i (j+1) from by rw[AY cr,Gq dC]] at U;refine aR λI a w U=>?_;have U:=U.drop 3;exact U.ag (j+1,aio,ain) (cr)
   rw[TR] at dC;refine aF λI a w U=>?_;have U:=U.drop 3;rw[show j0 s i j=j0 s i (j+1) from by rw[AY cr,TM dC]] at U;exact U.ag (j+1,v2,u2) (cr)
  refine zt ?_;refine aF λI a w U=>?_;have U:=U.drop 2;rw[Ln bt om] at U;exact U.ag (i+1,v2,u2) (bt)
 refine wp_exit<|cB<|cB<|fo<|bm<|wp_seq ?_;rw[Lo s om,MM ae.2 h3] at U;obtain⟨I,U⟩:=U.fr 0 3;refine c8 ?_;rfl
def aip (q:Call) (m:az) {j:Nat} (hj:j<2):ab (jq q m) j={m with aT:=10+q.aj,to:=2*q.aj+(j:Int),call:=q.num}:=by
 match j,hj with
 |0,_=>show _={m with aT:=10+q.aj,to:=2*q.aj+(0:Int),call:=q.num};rw[Int.add_zero];rfl
 |1,_=>rfl
def Wb (q:Call) (m:az) {j:Nat} (hj:j<2):(jq q m).take j++[{m with aT:=10+q.aj,to:=2*q.aj+(j:Int),call:=q.num}]=(jq q m).take (j+1):=by
 rw[<-aip q m hj,<-fe hj]
def MY (q:Call) (m:az) (hc:eF q.aj=true) (hm:ly m):
 Fn prog 306 [q.av,m.av] (dM (jq q m)):=by
 refine Fn.go 31 func306 ntmps306 (λW I a U=>?_);have bq:=qS.1 hc;refine bD λI a w U=>?_;refine U.box rfl .tt λb3 I a w U=>?_;refine aB λI a w U=>?_;refine U.l0 λb7 I a w U=>?_;refine aF λI a w U=>?_;refine St.lo (σ:=Nat×Int×Int×Int×Value) (run 2 5 (run 22 8 [])) ⟨λ⟨j,f1,f2,f3,v⟩=>[(6,AV.int j),(5,AV.val v)],λ⟨j,f1,f2,f3,v⟩=>[Own.box b3 108 ({m with aT:=f1,to:=f2,call:=f3}:az).cells,Own.row v 108 15 (((jq q m).take j).map az.cells)],λ⟨j,f1,f2,f3,v⟩=>j<=2⟩ (λ⟨j,f1,f2,f3,v⟩=>2-j) (0,m.aT,m.to,m.call,.slice (some ⟨b7,0,none⟩) 0 0) U ?aI ?bF;case aI=>exact Nat.zero_le _
 rintro⟨j,f1,f2,f3,v⟩ I a w ao U;have hj:j<=2:=ao;dsimp only at U;refine aF λI a w U=>?_;refine cz (λae=>?_) λae=>?_
 .refine g9 λI a w U=>?_;refine U.o (mi .c .tt (λ_=>by omega)) λU=>?_;refine wL λI a w U=>?_;refine U.o (.c1 (TB {m with aT:=10+q.aj,to:=2*q.aj+(j:Int),call:=q.num} hm)) λU=>?_;refine U.o (.li [({m with aT:=10+q.aj,to:=2*q.aj+(j:Int),call:=q.num}:az).cells] iN (.u .nil)) λU=>?_;refine U.append 1 rfl gA dV rfl .tt .r rfl (by simp[jq];omega) λAw a w U=>?_;rw[cJ,Wb q m om] at U;refine aX λI a w U=>?_;exact U.ag (j+1,10+q.aj,2*q.aj+(j:Int),q.num,Aw) (by show j+1<=2;omega)
 refine wp_exit<|cB<|cB<|fo<|bm<|wp_seq ?_;rw[List.take_of_length_le (by show 2<=j;omega)] at U;obtain⟨I,U⟩:=U.fr 1 5;refine c8 ?_;rfl
def aiq {q:Call} {t0:Int} (h:dJ q t0) {a:Answer} (hk:a.aY.aU∈q.aL) (he:a.aY.key=a.key):q.aL.filter (λd=>!decide (d.key=a.key))=q.aL.filter λd=>decide (d≠a.aY.aU):=by
 apply List.filter_congr;intro d hd;by_cases e:d.key=a.key
 .have:d=a.aY.aU:=TG h.aL hd hk (e.trans he.symm);rw[decide_eq_true e,this];simp
 rw[decide_eq_false e];have:d≠a.aY.aU:=λe2=>e (by rw[e2];exact he);rw[decide_eq_true this];rfl
def air {q:Call} {m:az} {t t0:Int} (h:dJ q t0) (hv:m.kind=4/\(m.yes=true->m.an.length=1/\(ab m.an 0).key=m.key)) (gH:iE q.keys m.key=true) (hb:(decide (cv q m.key<0)&&dw m.ar)=true) (ha:qR {q with au:=dj q.au (cX m)}=false):iw q m t={q with au:=dj q.au (cX m)}:=by
 rw[Bool.and_eq_true,decide_eq_true_eq] at hb;have bz:=(GY h gH hb.1).2;unfold iw;rw[if_pos hv,if_pos hb.1,if_pos hb.2];unfold mb;dsimp only;rw[if_pos];have:¬((dj q.au (cX m)).length:Int)=q.keys.length:=by simpa[qR] using ha
 rw[yL] at this⊢;omega
def Wc {q:Call} {m:az} {t t0:Int} (h:dJ q t0) (hv:m.kind=4/\(m.yes=true->m.an.length=1/\(ab m.an 0).key=m.key)) (gH:iE q.keys m.key=true) (hb:(decide (cv q m.key<0)&&dw m.ar)=true) (ha:qR {q with au:=dj q.au (cX m)}=true):
 iw q m t=if ky {q with au:=dj q.au (cX m)}=[] then{q with au:=dj q.au (cX m),aL:=ky {q with au:=dj q.au (cX m)},end_:=t} else{q with au:=dj q.au (cX m),aL:=ky {q with au:=dj q.au (cX m)}}:=by
 rw[Bool.and_eq_true,decide_eq_true_eq] at hb;have uz:=(GY h gH hb.1).1;have:((dj q.au (cX m)).length:Int)=q.keys.length:=by simpa[qR] using ha
 unfold iw;rw[if_pos hv,if_pos hb.1,if_pos hb.2];unfold mb kV;dsimp only;rw[if_neg om];generalize ky {q with au:=dj q.au (cX m)}=y;rw[uz,List.nil_append]
def Wd {q:Call} {m:az} {t t0:Int} (h:dJ q t0) (hm:dL (cX m)=true) (hv:m.kind=4/\(m.yes=true->m.an.length=1/\(ab m.an 0).key=m.key)) (hb:(decide (0<=cv q m.key)&&m.yes&&decide (0<=fy q.aL (cX m).aY.aU))=true):
 iw q m t=if(q.aL.filter λd=>!decide (d.key=m.key))=[] then{q with au:=q.au.set (cv q m.key).toNat (cX m),aL:=q.aL.filter (λd=>!decide (d.key=m.key)),end_:=t} else{q with au:=q.au.set (cv q m.key).toNat (cX m),aL:=q.aL.filter λd=>!decide (d.key=m.key)}:=by
 simp only[Bool.and_eq_true,decide_eq_true_eq] at hb;obtain⟨⟨h1,h2⟩,h3⟩:=hb;have px:=oY.1 h3;have hk:(cX m).aY.key=(cX m).key:=(qO hm h2).2;rw[show(λd:aw=>!decide (d.key=m.key))=λd=>!decide (d.key=(cX m).key) from rfl,aiq h px hk];unfold iw;rw[if_pos hv,if_neg om,if_pos h2];unfold lu;rw[if_pos px];rfl
def ais {q:Call} {m:az} {t:Int} (hv:m.kind=4/\(m.yes=true->m.an.length=1/\(ab m.an 0).key=m.key)) (hb:(decide (cv q m.key<0)&&dw m.ar)=false) (ah:(decide (0<=cv q m.key)&&m.yes&&decide (0<=fy q.aL (cX m).aY.aU))=false):iw q m t=q:=by
 unfold iw;rw[if_pos hv];by_cases hg:cv q m.key<0
 .rw[decide_eq_true hg,Bool.true_and] at hb;rw[if_pos hg,if_neg (by rw[hb];simp)]
 rw[if_neg hg];split
 .rename_i hy;rw[decide_eq_true om,hy,Bool.true_and,Bool.true_and,decide_eq_false_iff_not,oY] at ah;unfold lu;rw[if_neg ah]
 rfl
def ait {s:Server} {m:az} (hm:bK m=true) (h1:(m.kind==1&&eF (m.aT-10)&&decide (0<m.call)&&fE s m.key)=false) (h2:(m.kind==3&&eF (m.aT-10)&&decide (0<m.call)&&fE s m.key)=false)
 (h3:(m.kind==5&&(cM m.aT&&(bM m.aT !=bM s.site)))=false) (h4:(m.kind==6&&(cM m.aT&&(bM m.aT !=bM s.site))&&fE s m.key)=false) (h5:(m.kind==7&&(m.aT==fA s.site)&&decide (0<=placeOf s.an ⟨m.key,m.ar⟩))=false)
 (h6:(m.kind==8&&(m.aT==fA s.site)&&iq s ⟨m.key,m.ar⟩&&decide ((s.ba.length:Int)<80))=false) (h7:(m.kind==9&&(m.aT==fA s.site)&&decide (0<m.bw))=false)
 (h8:(m.kind==10&&(m.aT==fA s.site)&&([(ab s.aD m.slot.toNat).bw,(ab s.aD m.slot.toNat).cm]==[m.bw,2]))=false):dh s m=(s,[]):=by
 rw[Bool.and_assoc] at h4 h5 h7 h8;rw[Bool.and_assoc,Bool.and_assoc] at h6;unfold dh;by_cases k1:m.kind=1
 .rw[if_pos k1];unfold gC;rw[VK h1 k1];rfl
 rw[if_neg k1];by_cases k3:m.kind=3
 .rw[if_pos k3];unfold gR;rw[VK h2 k3];rfl
 rw[if_neg k3];by_cases k5:m.kind=5
 .rw[if_pos k5];unfold gu uk;rw[A1 h3 k5];rfl
 rw[if_neg k5];by_cases k6:m.kind=6
 .have h:=A1 h4 k6;rw[if_pos k6];unfold jw;rw[if_neg];intro e;unfold fE at h;rw[Ds hm,Bool.true_and] at h;simp only[Bool.and_eq_true] at e;rw[e.1.1.1,e.1.1.2,e.2] at h;cases h
 rw[if_neg k6];by_cases k7:m.kind=7
 .have h:=A1 h5 k7;rw[if_pos k7];unfold lz eK;rw[if_neg];intro e;rw[Bool.and_eq_true] at e;split at e
  .rename_i hp;rw[e.2,decide_eq_true hp] at h;cases h
  cases e.1
 rw[if_neg k7];by_cases k8:m.kind=8
 .have h:=A1 h6 k8;rw[if_pos k8];unfold ib;rw[if_neg];intro e;simp only[Bool.and_eq_true,decide_eq_true_eq] at e;rw[e.1.1,e.1.2,decide_eq_true om] at h;cases h
 rw[if_neg k8];by_cases k9:m.kind=9
 .have h:=A1 h7 k9;rw[if_pos k9];unfold gq;rw[if_neg];intro e;simp only[Bool.and_eq_true,decide_eq_true_eq] at e;rw[e.1,decide_eq_true om] at h;cases h
 rw[if_neg k9];by_cases ow:m.kind=10
 .have h:=A1 h8 ow;rw[if_pos ow];unfold jL;rw[if_neg];intro e;simp only[Bool.and_eq_true,beq_iff_eq] at e;rw[e.1.2,e.2,e.1.1] at h;simp at h
 rw[if_neg ow]
def aiu {w:ai} (h:bX w) (x:Int):sB w.calls x=fM w.calls w.calls.length x:=by
 have key:∀k,k<=w.calls.length->(w.calls.take k).foldl (λn q=>if q.aj=x then q.num else n) 0=fM w.calls k x:=by
  intro k;induction k with
  |zero=>intro _;rw[Gc];rfl
  |succ k ih=>
   intro hk
   rw[fe om,List.foldl_append,ih om,pR om]
   show(if(ab w.calls k).aj=x then(ab w.calls k).num else fM w.calls k x)=_
   split
   .rename_i e
    rw[((pb.1 h.calls).2 k om).2.2.1,e,pR om,if_pos e]
   rfl
 have:=key w.calls.length (Nat.le_refl _);rw[List.take_length] at this;exact this
def aiv {x:ai} {e:Ev} (hg:bX x) (h:0<=e.aj/\e.aj<=1) {q:Call} (hq:q∈x.calls++[ey x e]):gV q.aj:=by
 rcases List.mem_append.1 hq with hq|hq
 .obtain⟨k,hk,rfl⟩:=fS hq;have:=qS.1 (hg.call hk).aj;unfold gV;omega
 obtain rfl:=List.mem_singleton.1 hq;show gV e.aj;unfold gV;omega
def We {s:Server} {m:az} (hg:bJ s) (hm:bK m=true):(cN s m).2.length<=1048576/\∀y∈(cN s m).2,ly y:=by
 unfold cN;split
 .exact⟨by have:=VM s m;omega,λy hy=>yT (MX hg hm y hy)⟩
 exact⟨Nat.zero_le _,λy hy=>by cases hy⟩
def dJ.lens {q:Call} {t:Int} (h:dJ q t):1<=q.keys.length/\q.keys.length<=3/\q.ctx.length<=6/\q.aL.length<=6/\q.au.length<=3/\∀a∈q.au,a.aY.aQ.length<=6:=by
 have h1:=h.keys;have hu:jZ q.keys=true:=by simp only[fU,Bool.and_eq_true] at h1;exact h1.1
 have h2:1<=q.keys.length/\q.keys.length<=3:=by
  simp only[fU,Bool.and_eq_true,Bool.or_eq_true,aJ,beq_iff_eq,decide_eq_true_eq] at h1;omega
 have h3:q.au.length<=q.keys.length:=MK hu (Vl.2 ⟨h.has,h.sorted,h.aN⟩);exact⟨h2.1,h2.2,iV h.ctx,iV h.aL,by omega,λa ha=>iV (sG (h.aN a ha))⟩
def dJ.small {q:Call} {t:Int} (h:dJ q t):AP q:=by
 have:=h.lens;exact⟨by omega,by omega,by omega,λa ha=>(by have:=this.2.2.2.2.2 a ha;omega),by omega⟩
def ah5 (q:Call) (n:Value) (x:Answer) (t:Int) (hg:∀y∈q.au,dL y=true) (hx:dL x=true) (hl:q.au.length<=1048575) (mL:q.keys.length<=1048576) (hn:q.aL.length<=1048576):
 jV prog 328 [q.A0 n,x.av,AV.int t] [Own.row n 125 3 (q.aL.map aw.cells)] [] (mb q x t).av:=by
 refine dp.intro 62 func328 rfl ntmps328 rfl aO (λW I a U=>?_);refine sr<|U.box rfl .tt λb3 I a w U=>U.o .bp λU=>U.alloc rfl eJ im λb6 I a w U=>?_;refine zt ?_;refine U.l0 λm7 I a w U=>?_;refine aR λI a w U=>?_;refine St.lo (σ:=Nat×Bool×List Answer×Value) (run 3 7 (run 32 11 [])) ⟨λ⟨k,done,out,v⟩=>[(9,AV.int k),(8,AV.bool done),(7,AV.val v)],λ⟨k,done,out,v⟩=>[Own.row n 125 3 (q.aL.map aw.cells),Own.box b3 45 [AV.int q.aj,AV.int q.num,AV.int q.kind,jt q.keys,AV.int q.val,bE q.ctx,AV.int q.bH,AV.int q.end_,AV.bool q.over,AV.int q.ar.time,AV.int q.ar.site,sd q.au,AV.val n],Own.box b6 45 [AV.val (.int .i64 0),AV.val (.int .i64 0),AV.val (.int .i64 0),AV.rows 1 [],AV.val (.int .i64 0),AV.rows 3 [],AV.val (.int .i64 0),AV.val (.int .i64 0),AV.val (.bool false),AV.val (.int .i64 0),AV.val (.int .i64 0),AV.rows 9 [],AV.rows 3 []],Own.row v 56 9 (out.map Answer.cells)],λ⟨k,done,out,v⟩=>oi q.au x k done out⟩ (λ⟨k,done,out,v⟩=>q.au.length-k) (0,false,[],.slice (some ⟨m7,0,none⟩) 0 0) U ?aI ?bF;case aI=>exact oi.zero q.au x
 rintro⟨k,done,out,v⟩ I a w ao U;have hp:oi q.au x k done out:=ao;have hk:=hp.hk;have lF:=hp.len;have tD:done.toNat<=1:=by cases done<;>simp
 dsimp only at U;refine cF λI a w U=>?_;refine cz (λae=>?_) λae=>?_
 .refine aB λI a w U=>?_;refine cz (λah=>?_) λah=>?_
  .refine aG λI a w U=>?_;refine U.o (.li [x.cells] wO (.u .nil)) λU=>?_;refine U.ap 3 λv34 a w U=>?_;rw[cJ] at U;refine mz λI a w U=>?_;refine U.o (.li [(ab q.au k).cells] wO (.u .nil)) λU=>?_;refine U.ap 3 λp7 a w U=>?_;rw[cJ] at U;refine aX λI a w U=>?_;exact U.ag (k+1,true,(out++[x])++[ab q.au k],p7) (by obtain⟨h1,h2⟩:=ah;subst h1;exact hp.before ae h2)
  refine dZ λI a w U=>?_;refine U.o (.li [(ab q.au k).cells] wO (.u .nil)) λU=>?_;refine U.ap 3 λp7 a w U=>?_;rw[cJ] at U;refine aX λI a w U=>?_;exact U.ag (k+1,done,out++[ab q.au k],p7) (hp.step ae (by rcases ah with h|h;exact .inl h;exact .inr om))
 refine wp_exit<|cB<|cB<|fo<|bm ?_;refine St.cut (σ:=Value) (7::(run 6 43 [])) ⟨λv=>[(7,AV.val v)],λv=>[Own.row n 125 3 (q.aL.map aw.cells),Own.box b3 45 [AV.int q.aj,AV.int q.num,AV.int q.kind,jt q.keys,AV.int q.val,bE q.ctx,AV.int q.bH,AV.int q.end_,AV.bool q.over,AV.int q.ar.time,AV.int q.ar.site,sd q.au,AV.val n],Own.box b6 45 [AV.val (.int .i64 0),AV.val (.int .i64 0),AV.val (.int .i64 0),AV.rows 1 [],AV.val (.int .i64 0),AV.rows 3 [],AV.val (.int .i64 0),AV.val (.int .i64 0),AV.val (.bool false),AV.val (.int .i64 0),AV.val (.int .i64 0),AV.rows 9 [],AV.rows 3 []],Own.row v 56 9 ((dj q.au x).map Answer.cells)],λv=>True⟩ U ?MT ?ah6;case MT=>
  refine aF λI a w U=>?_;refine cz (λaq=>?_) λaq=>?_
  .refine aG λI a w U=>?_;refine U.o (.li [x.cells] wO (.u .nil)) λU=>?_;refine U.ap 3 λMN a w U=>?_;rw[cJ] at U;refine aB λI a w U=>?_;first|rw[show out++[x]=dj q.au x from by subst aq;exact hp.vq om] at U|rw[show out=dj q.au x from by subst aq;exact hp.vp om] at U
   exact U.me MN gM
  refine zt ?_;first|rw[show out++[x]=dj q.au x from by subst aq;exact hp.vq om] at U|rw[show out=dj q.au x from by subst aq;exact hp.vp om] at U
  exact U.me v gM
 rintro v I a w ao U;refine wp_seq ?_;obtain⟨I,U⟩:=U.fr 3 7;refine aG λI a w U=>?_;try have arA:=U.fI 3 rfl
 refine pJ λI a w U=>?_;refine cz (λaK=>?_) λaK=>?_
 .refine wp_seq ?_;obtain⟨I,U⟩:=U.fu 0 12 1;refine aF λI a w U=>?_;refine U.dx () [] rfl (.cons (.sx 2) .nil) trivial rfl ?_;exact(by unfold mb;dsimp only;rw[if_pos (by simpa using aK)];rfl)
 refine aG λI a w U=>?_;refine U.fR [0] (agK {q with au:=dj q.au x} n t (λy hy=>(oW.1 hy).elim (λe=>e▸hx) (hg y)) (by show(dj q.au x).length<=_;rw[yL];omega) hn) (ax .tt (ax .tt aH)) rfl aP rfl λI a w U=>?_;refine aB λI a w U=>?_;refine U.dx () [] rfl (.cons (.sx 2) .nil) trivial rfl ?_;exact(by unfold mb;dsimp only;rw[if_neg (by simpa using aK)];rfl)
def ah7 (q:Call) (g:Value) (x:Answer) (t t0:Int) (h:dJ q t0) (o8:x.aY.key=x.key):
 jV prog 329 [q.avG g,x.av,AV.int t] [Own.row g 56 9 (q.au.map Answer.cells)] [] (lu q x t).av:=by
 refine dp.intro 68 func329 rfl ntmps329 rfl aO (λW I a U=>?_);have nP:=h.lens;refine sr<|U.box rfl .tt λb3 I a w U=>U.o .bp λU=>U.alloc rfl eJ im λb6 I a w U=>?_;refine zt ?_;refine U.l0 λb9 I a w U=>?_;refine aF λI a w U=>?_;refine St.lo (σ:=Nat×Value) (run 2 7 (run 44 10 [])) ⟨λ⟨k,v⟩=>[(8,AV.int k),(7,AV.val v)],λ⟨k,v⟩=>[Own.row g 56 9 ((qQ q x k).map Answer.cells),Own.box b3 45 [AV.int q.aj,AV.int q.num,AV.int q.kind,jt q.keys,AV.int q.val,bE q.ctx,AV.int q.bH,AV.int q.end_,AV.bool q.over,AV.int q.ar.time,AV.int q.ar.site,AV.val g,bE q.aL],Own.box b6 45 [AV.val (.int .i64 0),AV.val (.int .i64 0),AV.val (.int .i64 0),AV.rows 1 [],AV.val (.int .i64 0),AV.rows 3 [],AV.val (.int .i64 0),AV.val (.int .i64 0),AV.val (.bool false),AV.val (.int .i64 0),AV.val (.int .i64 0),AV.rows 9 [],AV.rows 3 []],Own.row v 125 3 ((qT q x k).map aw.cells)],λ⟨k,v⟩=>k<=q.aL.length⟩ (λ⟨k,v⟩=>q.aL.length-k) (0,.slice (some ⟨b9,0,none⟩) 0 0) U ?aI ?bF;case aI=>exact Nat.zero_le _
 rintro⟨k,v⟩ I a w ao U;have hk:k<=q.aL.length:=ao;dsimp only at U;refine cF λI a w U=>?_;refine cz (λae=>?_) λae=>?_
 .refine zt ?_;refine U.dk ?_;refine pL ?_;refine dO ?_;refine .q .T (nr [_,_] [_,_] nz rfl rfl .ag .ag) ?_;refine bG ?_;refine .nil ?_;intro I a w U;refine bm ?_;refine U.cd (λah=>?_) λah=>?_
  .rw[TV _ x o8,decide_eq_true_eq] at ah;have zs:=ag2 h ae ah o8;obtain⟨mf,qF⟩:=vP zs;rw[adN h.aL ae ah] at U;obtain⟨bg,V4,eg⟩:=U.ku 0 rfl qh;subst eg;refine wp_seq ?_;refine U.dt 8 ?_;simp only[TD];refine fZ ?_;refine .o (Qx (cs:=[AV.int q.aj,AV.int q.num,AV.int q.kind,jt q.keys,AV.int q.val,bE q.ctx,AV.int q.bH,AV.int q.end_,AV.bool q.over,AV.int q.ar.time,AV.int q.ar.site,.val (.slice (some ⟨bg,0,none⟩) (q.au.map Answer.cells).length V4),bE q.aL]) 0 11 (ax .tt (ax .tt aH)) rfl rfl (Ge q x.key) (λ_ _ _ h=>h)) ?_;refine bG ?_;refine .o (jF gP fg .tt .tt (λ_=>by simp only[List.length_map];omega)) ?_;refine .nil ?_;intro I a w U;refine U.mn 0 fg .tt .tt rfl (by exact gB om) rfl rfl λa w U=>?_;refine zt ?_;refine aR λI a w U=>?_;have e9:∀y,y=x.cells->(List.map Answer.cells q.au).set (cv q x.key).toNat y=List.map Answer.cells (qQ q x (k+1)):=λy hy=>by rw[hy,agn ae ah,List.map_set]
   rw[e9,aei ae ah] at U;rotate_left
   .rfl
   exact U.ag (k+1,v) (ae)
  rw[TV _ x o8,decide_eq_false_iff_not] at ah;refine dZ λI a w U=>?_;refine U.o (.li [(ab q.aL k).cells] jk (.u .nil)) λU=>?_;refine U.append 3 rfl dX cW rfl .tt .r rfl (by have:=aek q x k;simp;omega) λv53 a w U=>?_;rw[cJ,aej ae ah,ae2 ae ah] at U;refine aX λI a w U=>?_;exact U.ag (k+1,v53) (ae)
 refine zt ?_;refine U.m λU=>U.o (tv 3 dX .tt rfl) λU=>?_;refine jW λI a w U=>?_;refine U.cd (λaq=>?_) λaq=>?_
 .rw[TW,decide_eq_true_eq] at aq;refine aR λI a w U=>?_;obtain⟨I,U⟩:=U.fr 3 7;refine aG λI a w U=>?_;try have ah9:=U.fI 3 rfl
  refine aB λI a w U=>?_;obtain⟨I,U⟩:=U.fu 0 11 1;refine aF λI a w U=>?_;refine U.dx () [] rfl (.cons (.sx 2) .nil) trivial rfl ?_;exact(by rw[VD (k:=k) om,if_pos aq];rfl)
 rw[TW,decide_eq_false_iff_not] at aq;refine wp_skip<|bm<|wp_seq ?_;obtain⟨I,U⟩:=U.fr 3 7;refine aG λI a w U=>?_;try have ah9:=U.fI 3 rfl
 refine aB λI a w U=>?_;obtain⟨I,U⟩:=U.fu 0 11 1;refine aF λI a w U=>?_;refine U.dx () [] rfl (.cons (.sx 2) .nil) trivial rfl ?_;exact(by rw[VD (k:=k) om,if_neg aq];rfl)
def aia (q:Call) (m:az) (t:Int) (h:dJ q t) (ht:t<=1000000):
 Fn prog 307 [q.av,m.av,AV.int t] ((cQ q m t).av):=by
 refine Fn.go 135 func307 ntmps307 (λW I a U=>?_);have ao:=uy.2 h;have nP:=h.lens;have hb:=h.bH;have zu:=h.DO om;have bq:=qS.1 h.aj;refine aG λI a w U=>?_;refine U.alloc rfl eJ im λb6 I a w U=>?_;refine aG λI a w U=>?_;refine U.o (bO (G7 q t om om) (ax (.t rfl) (ax (.t rfl) aH))) λU=>?_;refine aB λI a w U=>?_;refine U.cd (λae=>?_) λae=>?_
 .exfalso;rw[ao] at ae;cases ae;skip
 refine bD λI a w U=>?_;refine U.cY [] (ae1 q h.small) (ax .tt aH) rfl aP rfl λu I a w arB U=>?_;refine U.alloc rfl eJ im λb7 I a w U=>?_;refine aG λI a w U=>?_;refine U.o (.c1 (Mo ..)) λU=>?_;refine Q1 λI a w U=>?_;refine U.q .F (.cl (SX ..)) λU=>?_;refine JM λI a w U=>?_;refine U.cd (λah=>?_) λah=>?_
 .rw[VE q m t zu.1] at ah;replace ah:=nt ah;refine wp_seq ?_;obtain⟨I,U⟩:=U.fu 1 11 3;obtain⟨I,U⟩:=U.fu 2 12 3;refine aF λI a w U=>?_;refine U.ret rfl (.cons (.sx 0) aV.nil) ?_;exact(by unfold cQ;rw[ah];rfl)
 rw[VE q m t zu.1] at ah;replace ah:=nf ah;have sZ:=ah;simp only[Bool.and_eq_true,decide_eq_true_eq] at sZ;obtain⟨⟨⟨⟨⟨hm,_⟩,_⟩,gH⟩,hw⟩,ta⟩:=sZ;have He:=ga (nH hm).1;refine aR λI a w U=>?_;refine cz (λaq=>?_) λaq=>?_
 .refine dZ λI a w U=>?_;refine U.q .T (.cl (yl ..)) λU=>?_;refine aB λI a w U=>?_;refine U.cd (λaK=>?_) λaK=>?_
  .refine bk λI a w U=>?_;refine U.rV 3 mQ .tt .tt rfl rfl rfl λa w U=>?_;refine aR λI a w U=>?_;obtain⟨I,U⟩:=U.fu 1 11 3;obtain⟨I,U⟩:=U.fu 2 12 3;refine aF λI a w U=>?_;refine U.ret rfl (.cons (.sx 0) aV.nil) ?_;exact(by unfold cQ;rw[ah,if_pos rfl,if_pos aq,if_pos (by simpa using aK)];rfl)
  refine wp_skip<|bm<|wp_seq ?_;obtain⟨I,U⟩:=U.fu 1 11 3;obtain⟨I,U⟩:=U.fu 2 12 3;refine aF λI a w U=>?_;refine U.ret rfl (.cons (.sx 0) aV.nil) ?_;exact(by unfold cQ;rw[ah,if_pos rfl,if_pos aq,if_neg (by simpa using aK)];rfl)
 refine bx λI a w U=>?_;refine U.o (.bd pM (.k (.k aZ.nil))) λU=>?_;refine U.alloc rfl fg pM λb8 I a w U=>?_;refine aB λI a w U=>?_;refine U.dk ?_;refine tP ?_;refine .q .F2 (ff (i:=0) di bL .ag .c (λhg=>by simp at hg;omega)) ?_;refine ny ?_;refine .nil ?_;intro I a w U;refine bm ?_;refine U.cd (λaS=>?_) λaS=>?_
 .rw[Gs] at aS;replace aS:=nt aS;rw[decide_eq_false_iff_not] at aS;refine wp_seq ?_;obtain⟨I,U⟩:=U.fu 1 11 3;obtain⟨I,U⟩:=U.fu 2 12 3;refine aF λI a w U=>?_;refine U.ret rfl (.cons (.sx 0) aV.nil) ?_;exact(by unfold cQ iw;rw[ah,if_pos rfl,if_neg aq,if_neg aS];rfl)
 rw[Gs] at aS;replace aS:=nf aS;rw[decide_eq_true_eq] at aS;have tb:=Dh (q:=q) hm aS.2;refine wp_skip<|bm ?_;refine St.cut (σ:=Unit) (run 8 104 []) ⟨λ_=>[],λ_=>[Own.box b6 45 [AV.val (.int .i64 0),AV.val (.int .i64 0),AV.val (.int .i64 0),AV.rows 1 [],AV.val (.int .i64 0),AV.rows 3 [],AV.val (.int .i64 0),AV.val (.int .i64 0),AV.val (.bool false),AV.val (.int .i64 0),AV.val (.int .i64 0),AV.rows 9 [],AV.rows 3 []],Own.row u.1 56 9 (q.au.map Answer.cells),Own.row u.2 125 3 (q.aL.map aw.cells),Own.box b7 45 [AV.int q.aj,AV.int q.num,AV.int q.kind,jt q.keys,AV.int q.val,bE q.ctx,AV.int q.bH,AV.int q.end_,AV.bool q.over,AV.int q.ar.time,AV.int q.ar.site,AV.val u.1,AV.val u.2],Own.box b8 56 (cX m).cells],λ_=>True⟩ U ?aib ?arC;case aib=>
  refine aF λI a w U=>?_;refine U.cd (λbA=>?_) λbA=>?_
  .have zw:=(aS.2 bA).1;refine aG λI a w U=>?_;refine U.o (ff (i:=0) di bL .tt .c (λ_=>by omega)) λU=>?_;refine U.o .la λU=>?_;refine U.o (bO (qB (ab m.an 0) (by have:=iV (iW (fw (nH hm).1 _ (bh (l:=m.an) (k:=0) om))).2.2;omega)) (ax (.t rfl) aH)) λU=>?_;refine U.o .fv λU=>U.rV 4 bL .tt .tt rfl rfl rfl λa w U=>?_;refine zt ?_;have U:=U.pass (H':=[Own.box b6 45 [AV.val (.int .i64 0),AV.val (.int .i64 0),AV.val (.int .i64 0),AV.rows 1 [],AV.val (.int .i64 0),AV.rows 3 [],AV.val (.int .i64 0),AV.val (.int .i64 0),AV.val (.bool false),AV.val (.int .i64 0),AV.val (.int .i64 0),AV.rows 9 [],AV.rows 3 []],Own.row u.1 56 9 (q.au.map Answer.cells),Own.row u.2 125 3 (q.aL.map aw.cells),Own.box b7 45 [AV.int q.aj,AV.int q.num,AV.int q.kind,jt q.keys,AV.int q.val,bE q.ctx,AV.int q.bH,AV.int q.end_,AV.bool q.over,AV.int q.ar.time,AV.int q.ar.site,AV.val u.1,AV.val u.2],Own.box b8 56 (cX m).cells]) (by unfold cX;rw[bA];rfl);exact U.me () gM
  refine zt ?_;have U:=U.pass (H':=[Own.box b6 45 [AV.val (.int .i64 0),AV.val (.int .i64 0),AV.val (.int .i64 0),AV.rows 1 [],AV.val (.int .i64 0),AV.rows 3 [],AV.val (.int .i64 0),AV.val (.int .i64 0),AV.val (.bool false),AV.val (.int .i64 0),AV.val (.int .i64 0),AV.rows 9 [],AV.rows 3 []],Own.row u.1 56 9 (q.au.map Answer.cells),Own.row u.2 125 3 (q.aL.map aw.cells),Own.box b7 45 [AV.int q.aj,AV.int q.num,AV.int q.kind,jt q.keys,AV.int q.val,bE q.ctx,AV.int q.bH,AV.int q.end_,AV.bool q.over,AV.int q.ar.time,AV.int q.ar.site,AV.val u.1,AV.val u.2],Own.box b8 56 (cX m).cells]) (by unfold cX;rw[bA];rfl);exact U.me () gM
 rintro _ I a w ao U;refine bk λI a w U=>?_;refine U.o (.c2 (Ge q m.key)) λU=>?_;refine aB λI a w U=>?_;refine cz (λbt=>?_) λbt=>?_
 .refine aG λI a w U=>?_;refine U.o (.bd kv aZ.nil) λU=>?_;refine U.o (nr [_,_] [_,_] nz rfl rfl .tt .tt) λU=>?_;refine zt ?_;refine U.cd (λcr=>?_) λcr=>?_
  .rw[FX] at cr;refine wp_seq ?_;obtain⟨I,U⟩:=U.fu 1 11 3;refine bk λI a w U=>?_;refine U.fR [2] (ah5 q u.2 (cX m) t h.aN tb om om om) (ax .tt (ax .tt (ax .tt aH))) rfl aP rfl λI a w U=>?_;refine U.o (.c1 (KY _ (dJ.mb h hw ta aq tb gH bt).small)) λU=>?_;refine aB λI a w U=>?_;refine U.ret rfl (.cons (.sx 0) aV.nil) ?_;exact(by unfold cQ iw;rw[ah,if_pos rfl,if_neg aq,if_pos aS,if_pos bt,if_pos cr];rfl)
  rw[FX] at cr;refine wp_skip<|bm<|wp_seq ?_;obtain⟨I,U⟩:=U.fu 1 11 3;obtain⟨I,U⟩:=U.fu 2 12 3;refine aF λI a w U=>?_;refine U.ret rfl (.cons (.sx 0) aV.nil) ?_;exact(by unfold cQ iw;rw[ah,if_pos rfl,if_neg aq,if_pos aS,if_pos bt,if_neg (by rw[cr];simp)];rfl)
 refine aF λI a w U=>?_;refine U.cd (λdC=>?_) λdC=>?_
 .refine wp_seq ?_;obtain⟨I,U⟩:=U.fu 2 12 3;refine bk λI a w U=>?_;refine U.fR [1] (ah7 q u.1 (cX m) t t h (qO tb dC).2) (ax .tt (ax .tt (ax .tt aH))) rfl aP rfl λI a w U=>?_;refine U.o (.c1 (KY _ (dJ.lu h hw ta aq tb dC).small)) λU=>?_;refine aB λI a w U=>?_;refine U.ret rfl (.cons (.sx 0) aV.nil) ?_;exact(by unfold cQ iw;rw[ah,if_pos rfl,if_neg aq,if_pos aS,if_neg (Int.not_lt.2 bt),if_pos dC];rfl)
 refine wp_skip<|bm<|wp_seq ?_;obtain⟨I,U⟩:=U.fu 1 11 3;obtain⟨I,U⟩:=U.fu 2 12 3;refine aF λI a w U=>?_;refine U.ret rfl (.cons (.sx 0) aV.nil) ?_;exact(by unfold cQ iw;rw[ah,if_pos rfl,if_neg aq,if_pos aS,if_neg (Int.not_lt.2 bt),if_neg (by rw[dC];simp)];rfl)
def aic (s:Server) (m:az) (hg:bJ s) (ho:(aJ m.aT 10 11&&decide (1<=m.call)&&fE s m.key)=true):
 Fn prog 343 [s.av,m.av] (AV.dG [((s,gR s m)).1.av,dM ((s,gR s m)).2]):=by
 refine Fn.go 55 func343 ntmps343 (λW I a U=>?_);have ao:=jX.2 hg;have dq:=hg.ok;have ja:=hg.small;have tx:∀v∈s.an,v.aQ.length<=1048576:=ja.2.1.2;refine aG λI a w U=>?_;refine U.alloc rfl cA dS λb4 I a w U=>?_;refine g9 λI a w U=>?_;refine U.o (.bd eU (.k (.k (.k (.t aZ.nil))))) λU=>?_;refine U.alloc rfl dV eU λb6 I a w U=>?_;refine bY λI a w U=>?_;refine U.o (.cl (MG s.an m.key tx)) λU=>?_;refine bk λI a w U=>?_;refine U.alloc rfl bL ee λb7 I a w U=>?_;refine bx λI a w U=>?_;refine U.o (.c1 (xh ..)) λU=>?_;refine aB λI a w U=>?_;refine U.cd (λae=>?_) λae=>?_
 .replace ae:=nt ae;refine dZ λI a w U=>?_;refine U.o (.bd gX (.k (.t aZ.nil))) λU=>?_;refine U.o (.cl (oH s.an ⟨m.key,m.ar⟩)) λU=>?_;refine aR λI a w U=>?_;refine U.cd (λah=>?_) λah=>?_
  .refine aR λI a w U=>?_;refine U.ret rfl (.cons (.sx 0) (.cons (.nil (sz:=15) rfl) aV.nil)) ?_;exact(by show AV.dG [s.av,_]=AV.dG [s.av,dM (gR s m)];unfold gR;rw[ho,if_pos rfl];rw[ae,if_neg bn,show eK s.an ⟨m.key,m.ar⟩=none from by unfold eK;rw[if_neg (by simpa using ah)]];rfl)
  refine bk λI a w U=>?_;refine U.o ((by first|exact ff di bL .tt .tt (λ_=>by have:=C6 ah;omega)|exact iT di bL .tt .tt (λ_=>by have:=C6 ah;omega)|exact je di bL .tt .tt (λ_=>by have:=C6 ah;omega))) λU=>?_;refine aX λI a w U=>?_;refine U.cd (λaq=>?_) λaq=>?_
  .refine U.gG (([2],none)::rp 2 [([1],some (1,[])),([],none),([1],some (1,[]))]) aO aO rfl ?_;refine .r [2] (.ls 2) ?_;refine .o (.li [_] mB (.u .nil)) ?_;refine bG ?_;refine bc.ji (x:=AV.any) 1 (λF W0 I0 I γ a w Q U kk=>U.s1 1 λU=>kk _ _ _ U) ?_;refine bG ?_;refine bc.ji (x:=AV.any) 1 (λF W0 I0 I γ a w Q U kk=>U.s1 1 λU=>kk _ _ _ U) ?_;refine .nil ?_;intro I a w U;refine zt ?_;refine U.dt 5 ?_;simp only[TD];refine eb ?_;refine .o (bO (vI s m ⟨4,0,0,m.call,m.key,m.ar,0,true,[],0,0,[ab s.an (placeOf s.an ⟨m.key,m.ar⟩).toNat],[],[]⟩ (VH (s:=s) (tx _ (bh (by have:=C6 ah;omega))))) (ax (.t rfl) (ax (.t rfl) (ax (.t rfl) aH)))) ?_;refine .nil ?_;intro I a w U;refine aF λI a w U=>?_;refine U.ret rfl (.cons (.sx 0) (.cons .x aV.nil)) ?_;exact(by show AV.dG [s.av,_]=AV.dG [s.av,dM (gR s m)];unfold gR;rw[ho,if_pos rfl];rw[ae,if_neg bn,(C6 ah).2.2];rfl)
  cases aq;skip
 replace ae:=nf ae;refine aB λI a w U=>?_;refine U.cd (λaK=>?_) λaK=>?_
 .refine U.gG (([2],none)::rp 2 [([1],some (1,[])),([],none),([1],some (1,[]))]) aO aO rfl ?_;refine .r [2] (.ls 2) ?_;refine .o (.li [_] mB (.u .nil)) ?_;refine bG ?_;refine bc.ji (x:=AV.any) 1 (λF W0 I0 I γ a w Q U kk=>U.s1 1 λU=>kk _ _ _ U) ?_;refine bG ?_;refine bc.ji (x:=AV.any) 1 (λF W0 I0 I γ a w Q U kk=>U.s1 1 λU=>kk _ _ _ U) ?_;refine .nil ?_;intro I a w U;refine zt ?_;refine U.dt 5 ?_;simp only[TD];refine eb ?_;refine .o (bO (vI s m ⟨4,0,0,m.call,m.key,m.ar,0,true,[],0,0,[(dY s.an m.key).getD default],[],[]⟩ (VH (s:=s) (by obtain⟨v,hv⟩:=Option.isSome_iff_exists.1 aK;rw[hv];exact tx _ (uj hv).1))) (ax (.t rfl) (ax (.t rfl) (ax (.t rfl) aH)))) ?_;refine .nil ?_;intro I a w U;refine aF λI a w U=>?_;refine U.ret rfl (.cons (.sx 0) (.cons .x aV.nil)) ?_;exact(by show AV.dG [s.av,_]=AV.dG [s.av,dM (gR s m)];unfold gR;rw[ho,if_pos rfl];rw[ae,if_pos rfl];obtain⟨v,hv⟩:=Option.isSome_iff_exists.1 aK;unfold lS;rw[hv];rfl)
 refine zt ?_;refine U.dt 5 ?_;simp only[TD];refine eb ?_;refine .o (.c3 (vI s m ⟨4,0,0,m.call,m.key,m.ar,0,false,[],0,0,[],[],[]⟩ (yU ..)))<|.nil ?_;intro I a w U;refine aF λI a w U=>?_;refine U.ret rfl (.cons (.sx 0) (.cons .x aV.nil)) ?_;exact(by show AV.dG [s.av,_]=AV.dG [s.av,dM (gR s m)];unfold gR;rw[ho,if_pos rfl];rw[ae,if_pos rfl];unfold lS;rw[show dY s.an m.key=none from Dv (by rw[aK];rfl)];rfl)
def bX.lens {w:ai} (h:bX w):w.calls.length<=20/\∀q∈w.calls,q.au.length<=3:=⟨(pb.1 h.calls).1,λq hq=>by
 obtain⟨k,hk,rfl⟩:=fS hq;exact(h.call hk).lens.2.2.2.2.1⟩
def bX.small {w:ai} (h:bX w):A9 w:=by
 refine⟨⟨by have:=h.aC;omega,λs U=>?_⟩,⟨by have:=h.al;omega,λm hm=>yT (h.words m hm)⟩,⟨by have:=h.lens.1;omega,λq hq=>?_⟩,by have:=h.seen;omega,λl hl=>by have:=iV (h.kG l hl);omega⟩
 .obtain⟨i,hi,rfl⟩:=fS U;exact((h.site i (by have:=h.aC;omega)).2).small
 obtain⟨i,hi,rfl⟩:=fS hq;exact(h.call hi).small
def bX.au {w:ai} (h:bX w):∀q∈w.calls,q.au.length<=1048576:=λq hq=>by have:=h.lens.2 q hq;omega
structure nQ (w:ai) (q:Call):Prop where
 eC:∀a∈q.au,a.yes=true->be w q.aj.toNat a.aY
 ctx:∀a∈q.au,bQ a.aY.ar (bI q.ctx a.key)=false
 full:q.kind≠1->q.au.length=q.keys.length->∃C:Int->cE,(∀a∈q.au,∀key,bQ (C key) (bI a.aY.aQ key)=false)/\(∀a∈q.au,bQ a.aY.ar (C a.key)=false\/(⟨a.key,C a.key⟩:aw)∈q.aL)/\
  ∀d∈q.aL,d.ar=C d.key/\∃u,be w q.aj.toNat u/\u.aU=d/\∀key,bQ (C key) (bI u.aQ key)=false
def nQ.ext {w x:ai} (h:Ext w x) {q:Call} (g:nQ w q):nQ x q:=
 ⟨λa ha hy=>h.eC (g.eC a ha hy),g.ctx,λh1 h2=>by
  obtain⟨C,c1,c2,c3⟩:=g.full h1 h2;exact⟨C,c1,c2,λd hd=>let⟨e1,u,e2,e3⟩:=c3 d hd;⟨e1,u,h.eC e2,e3⟩⟩⟩
def Hg {q:Call} (h:∀a∈q.au,dL a=true) (key:Int):bI (fT q) key=kx q.au key:=by
 show bI (q.au.foldl kT []) key=_;rw[(pY (acc:=[]) rfl h).2 key];show dQ gm _=_;exact pP (DB h key)
def xD (q:Call):Prop:=bV q=true->q.kind≠1->q.au.length=q.keys.length->q.aL≠[]
def aid {q:Call} (t:Int) (ht:t≠0):xD (kV q t):=λhw _ _=>by
 unfold kV at*;split at hw
 .exact absurd (oZ hw).1 ht
 rename_i hn;rw[if_neg hn];exact hn
def aie {q:Call} (h:xD q) (m:az) {t:Int} (ht:t≠0):xD (cQ q m t):=by
 unfold cQ;split
 .split
  .split
   .exactλ_ hk=>absurd ‹q.kind=1› hk
   exact h
  unfold iw;split
  .split
   .split
    .unfold mb;dsimp only;split
     .exactλ_ _ hl=>absurd hl (Nat.ne_of_lt ‹_›)
     exact aid t ht
    exact h
   split
   .unfold lu;split
    .dsimp only;split
     .exactλhw _ _=>absurd (oZ hw).1 ht
     exactλ_ _ _=>‹_›
    exact h
   exact h
  exact h
 exact h
structure iH (w:ai):Prop where
 MU:Da w
 V5:∀i,i<4->yW (sv w i)
 V6:∀q∈w.calls,xD q
 done:∀i,i<4->dI (sv w i)<0
def V7:iH dT:=by
 have h:∀i,i<4->(sv dT i).an=[]/\(sv dT i).ba=[]:=by decide
 refine⟨λσ v ⟨i,hi,_,hv⟩=>?_,λi hi d hd=>?_,λq hq=>by simp[dT] at hq,by decide⟩
 .rw[(h i hi).1] at hv;simp at hv
 rw[(h i hi).2] at hd;simp at hd
def aif {q:Call} {m:az} {t:Int} (h4:m.kind=4) (hy:m.yes=true->m.an.length=1/\(ab m.an 0).key=m.key) (U:dw m.ar=true):∃a∈(iw q m t).au,a.key=m.key:=by
 unfold iw;rw[if_pos ⟨h4,hy⟩];split
 .have hi:∃a∈dj q.au (cX m),a.key=m.key:=⟨cX m,oW.2 (.inl rfl),rfl⟩;unfold mb;dsimp only;split
  .exact hi
  unfold kV;split
  .exact hi
  exact hi
 rename_i hp;obtain⟨a,ha,e⟩:=xg.1 (show 0<=cv q m.key by omega);have hh:=vP (q:=q) (key:=m.key) om;split
 .unfold lu;split
  .have U:∃b∈q.au.set (cv q (cX m).key).toNat (cX m),b.key=m.key:=⟨cX m,Ll (by show(cv q m.key).toNat<_;exact hh.1),rfl⟩;dsimp only;split
   .exact U
   exact U
  exact⟨a,ha,e⟩
 exact⟨a,ha,e⟩
def nd (q:Call):Prop:=bV q=true->q.kind≠1/\∀κ∈q.keys,∃a∈q.au,a.key=κ
end Go.Proofs.YtldbakcpcfdlaaaGreat
