/- Part 51: contracts of functions, plain facts. -/
import Derived.Test.YtldbakcpcfdlaaaGreatP45
set_option linter.all false
set_option maxRecDepth 100000
set_option maxHeartbeats 4000000
namespace Go.Proofs.YtldbakcpcfdlaaaGreat
open Go Go.RowKit Tryz
attribute [local irreducible] wpList Code.wp Ok
def Ik (out:List aA) (v:aA):List aA:=if placeOf out v.aU<0 then qC out v else out
def Yf (out:List aA) (v:aA):Ik out v=er out v:=by
 unfold er Ik;split
 .rename_i h;exact Kd (pN h)
 rfl
def Yg:∀{l:List aA} {v:aA},(∀x∈l,fP x v=true)->fJ l v=l++[v]
 |[],_,_=>rfl
 |x::r,v,h=>by
  unfold fJ;rw[h x bn,if_pos rfl,Yg λy hy=>h y (by simp[hy])];rfl
def Yh:∀{l out:List aA},VS (out++l)->l.foldl er out=out++l
 |[],out,_=>by simp
 |v::r,out,h=>by
  have h1:∀x∈out,fP x v=true:=λx hx=>(List.pairwise_append.1 h).2.2 x hx v bn;have h2:er out v=out++[v]:=by
   unfold er;rw[if_pos (yn λx hx he=>?_),Yg h1];have:=h1 x hx;unfold fP at this;rw[he,wV] at this;cases this
  rw[List.foldl_cons,h2,Yh (by simpa using h)];simp
def aod {l:List aA} {d:aw} {k:Nat} (hk:k<l.length) (h:∀i,i<k->mC d (ab l i)=false) (hp:mC d (ab l k)=true):eK l d=some (ab l k):=by
 have e:placeOf l d=k:=nB hk h hp;unfold eK;rw[e,if_pos om];rfl
def aoe {l:List aA} {d:aw} {k:Nat} (hk:l.length<=k) (h:∀i,i<k->mC d (ab l i)=false):eK l d=none:=by
 have e:placeOf l d=-1:=mS hk h;unfold eK;rw[e,if_neg om]
def pn (w:ai) (s:Int) (j:Nat):List aA:=(List.range j).foldl (λout (i:Nat)=>(ab w.aC (2*s+i).toNat).an.foldl er out) []
def EF (w:ai) (s:Int) (j:Nat):pn w s (j+1)=(ab w.aC (2*s+j).toNat).an.foldl er (pn w s j):=by
 unfold pn;rw[List.range_succ,List.foldl_append];rfl
def aof {w:ai} {s:Int} (h:VS (ab w.aC (2*s).toNat).an):pn w s 2=cg w s:=by
 rw[EF,EF];have e:pn w s 0=[]:=rfl;rw[e];have:=Yh (out:=[]) (l:=(ab w.aC (2*s+((0:Nat):Int)).toNat).an) (by simpa using h);rw[this];unfold cg;simp
def aog (l:List aA) (key:Int) (st:cE):
 Fn prog 101 [bU l,AV.int key,st.av] (AV.dG [((eK l ⟨key,st⟩).getD default).av,AV.bool (eK l ⟨key,st⟩).isSome]):=by
 refine Fn.go 36 func101 ntmps101 (λW I a U=>?_);have hle:=U.eE (t:=0) rfl;refine bD λI a w U=>?_;refine U.alloc rfl bL ee λb6 I a w U=>?_;refine aF λI a w U=>?_;refine St.lo (σ:=Nat) (run 28 7 []) ⟨λk=>[(8,AV.int k)],λk=>[Own.box b6 54 [AV.val (.int .i64 0),AV.val (.int .i64 0),AV.val (.int .i64 0),AV.val (.int .i64 0),AV.val (.int .i64 0),AV.val (.int .i64 0),AV.rows 3 []]],λk=>k<=l.length/\∀i,i<k->mC ⟨key,st⟩ (ab l i)=false⟩ (λk=>l.length-k) 0 U ?aI ?bF;case aI=>exact⟨Nat.zero_le _,λi hi=>by omega⟩
 rintro k I a w ao U;obtain⟨hk,aM⟩:=ao;refine aX λI a w U=>?_;refine cz (λae=>?_) λae=>?_
 .refine zt ?_;refine U.dk ?_;refine tP ?_;refine .q .T (nr [_,_] [_,_] nz rfl rfl .ag .ag) ?_;refine bG ?_;refine .nil ?_;intro I a w U;refine bm ?_;refine U.cd (λah=>?_) λah=>?_
  .rw[FJ] at ah;refine iM λI a w U=>?_;refine U.ret rfl (.cons (.sx 0) (.cons (.t rfl) aV.nil)) ?_;exact(by rw[aod ae aM ah];rfl)
  rw[FJ] at ah;refine aR λI a w U=>?_;exact U.ag (k+1) (⟨ae,λi h1=>by rcases Nat.lt_succ_iff_lt_or_eq.1 h1 with h|h;exact aM i h;rw[h];exact ah⟩)
 refine zt ?_;refine U.o (.bd ee aZ.nil) λU=>?_;refine aF λI a w U=>?_;refine U.ret rfl (.cons (.sx 0) (.cons (.t rfl) aV.nil)) ?_;exact(by rw[aoe om aM];rfl)
def aoh (u v:aA):
 Fn prog 56 [u.av,v.av] (AV.bool (jY u v)):=by
 refine Fn.go 66 func56 ntmps56 (λW I a U=>?_);have lens:u.aQ.length<=9223372036854775807/\v.aQ.length<=9223372036854775807:=by
  obtain⟨cs,_,hc⟩:=U.env 0 _ rfl;obtain⟨u1,_,h1,_⟩:=hc.get (i:=6) rfl;obtain⟨Ru,_,js⟩:=U.env 1 _ rfl;obtain⟨u2,_,h2,_⟩:=js.get (i:=6) rfl;exact⟨xW h1,xW h2⟩
 refine wM λI a w U=>?_;refine U.q .F (tz [_,_] [_,_] nz rfl rfl .ag .ag) λU=>?_;refine JO λI a w U=>?_;refine U.cd (λae=>?_) λae=>?_
 .replace ae:qI u v=false:=by unfold qI;rw[ae];rfl
  refine bf ?_;exact bB (by rw[A6,ae];rfl)
 replace ae:qI u v=true:=by unfold qI;rw[ae];rfl
 refine aB λI a w U=>?_;refine St.lo (σ:=Nat) (run 2 4 (run 18 48 [])) ⟨λk=>[(5,AV.int k)],λk=>[],λk=>k<=u.aQ.length/\∀i,i<k->(AD u v) i=true⟩ (λk=>u.aQ.length-k) 0 U ?aI ?bF;case aI=>exact⟨Nat.zero_le _,λi hi=>by omega⟩
 rintro k I a w ao U;obtain⟨mU,aM⟩:=ao;refine cF λI a w U=>?_;refine cz (λah=>?_) λah=>?_
 .refine zt ?_;refine U.dk ?_;refine ny ?_;refine .o ((by first|exact ff dX cW .tt .tt (λ_=>by have:=AF ae;omega)|exact iT dX cW .tt .tt (λ_=>by have:=AF ae;omega)|exact je dX cW .tt .tt (λ_=>by have:=AF ae;omega))) ?_;refine bG ?_;refine .o (tz [_,_,_] [_,_,_] wQ rfl rfl .tt .tt)<|.nil ?_;intro I a w U;refine bm ?_;refine U.cd (λaq=>?_) λaq=>?_
  .rw[AE] at aq;replace aq:=nt aq;refine bf ?_;exact bB (by rw[A6,eI (f:=AD u v) ah aq];simp)
  rw[AE] at aq;replace aq:=nf aq;refine aR λI a w U=>?_;exact U.ag (k+1) (⟨by omega,eY aM aq⟩)
 refine zt ?_;refine bf ?_;exact bB (by rw[A6,ae,eX aM om];rfl)
def zQ (w:ai) (rounds:Int):ai:=if cK w then bl (min rounds 40).toNat w else Lb
def jc (x:ai) (s:Int):List aA:=if cK x&&aJ s 0 1 then cg x s else[]
def Yi {x:ai} (ao:cK x=true) {s:Int} (h0:0<=s) (h1:s<=1):∀{j:Nat},j<=2->(pn x s j).length<=80*j
 |0,_=>by simp[pn]
 |j+1,hj=>by
  have ih:=Yi ao h0 h1 (j:=j) om;have hc:=ga (o6 ao (i:=(2*s+j).toNat) om).1;rw[EF];have:=w5 (ab x.aC (2*s+j).toNat).an (pn x s j);omega
def Yj {x:ai} (ao:cK x=true) {s:Int} (h0:0<=s) (h1:s<=1):∀{j:Nat},j<=2->∀v∈pn x s j,v.aQ.length<=6
 |0,_=>by intro v hv;simp[pn] at hv
 |j+1,hj=>by
  rw[EF];exact F4 (ob (o6 ao (i:=(2*s+j).toNat) om).1) (Yj ao h0 h1 (j:=j) om)
def Yk {l:List aA} {d:aw} (h:(eK l d).isSome=false):placeOf l d<0:=by
 rw[Ma,decide_eq_false_iff_not] at h;omega
def Yl {l:List aA} {d:aw} (h:(eK l d).isSome=true):¬placeOf l d<0:=by
 rw[Ma,decide_eq_true_eq] at h;omega
def Ym (x:ai) (s:Int) (nO:∀q∈x.calls,q.au.length<=1048576):
 Fn prog 38 [x.av,AV.int s] (bU (jc x s)):=by
 refine Fn.go 65 func38 ntmps38 (λW I a U=>?_);refine aF λI a w U=>?_;refine U.l0 λmG I a w U=>?_;obtain⟨I,U⟩:=U.fr 0 11;have U:=U.drop 0;refine aG λI a w U=>?_;refine U.o (.c1 (G8 x nO)) λU=>?_;refine bk λI a w U=>?_;refine U.q .F (.cl (jJ ..)) λU=>?_;refine aF λI a w U=>?_;refine cz (λae=>?_) λae=>?_
 .refine c8 ?_;exact(by rw[show jc x s=[] by unfold jc;rcases ae with h|h<;>rw[h]<;>simp];rfl)
 have fH:0<=s/\s<=1:=by have:=ae.2;simp[aJ] at this;exact this
 have h4:=(zf ae.1 (k:=0) om).2.1;refine bD λI a w U=>?_;refine U.o (mi .c .tt (λ_=>by omega)) λU=>?_;refine aB λI a w U=>?_;refine St.IA (σ:=Nat) (run 6 5 (run 41 23 [])) ⟨λj=>[(6,AV.int (2*s+(j:Int))),(5,bU (pn x s j))],λj=>[],λj=>j<=2⟩ (λj=>2-j) 0 U rfl ?aI ?Ko ?bF;case aI=>exact Nat.zero_le _
 case Ko=>exact(Env.dA rfl (by exact congrArg AV.int om) (Env.dA rfl dR Env.le_nil))
 rintro j I a w ao U;have hj:j<=2:=ao;refine aG λI a w U=>?_;refine U.o (mi .c .tt (λ_=>by omega)) λU=>?_;refine aF λI a w U=>?_;refine cz (λah=>?_) λah=>?_
 .obtain⟨cj,-⟩:=o6 ae.1 (i:=(2*s+j).toNat) om;have lj:=ga cj;have lt:=Yi ae.1 fH.1 fH.2 (j:=j) om;refine aB λI a w U=>?_;refine St.lo (σ:=Nat) (5::(run 4 7 (run 34 30 []))) ⟨λk=>[(7,AV.int k),(5,bU (((ab x.aC (2*s+j).toNat).an.take k).foldl er (pn x s j)))],λk=>[],λk=>k<=(ab x.aC (2*s+j).toNat).an.length⟩ (λk=>(ab x.aC (2*s+j).toNat).an.length-k) 0 U ?eo ?jK;case eo=>exact Nat.zero_le _
  rintro k I a w ao U;have hk:k<=(ab x.aC (2*s+j).toNat).an.length:=ao;refine oE λI a w U=>?_;refine cz (λaq=>?_) λaq=>?_
  .refine wJ λI a w U=>?_;refine U.alloc rfl bL ee λb8 I a w U=>?_;refine aB λI a w U=>?_;obtain⟨I,U⟩:=U.fb 0 8;refine bY λI a w U=>?_;refine U.o (.cl (aog ..)) λU=>?_;refine bk λI a w U=>?_;refine U.alloc rfl bL ee λb9 I a w U=>?_;refine U.sb 1 λU=>?_;obtain⟨I,U⟩:=U.fb 1 9;refine aR λI a w U=>?_;refine cz (λaK=>?_) λaK=>?_
   .change(eK _ (ab (ab x.aC (2*s+j).toNat).an k).aU).isSome=false at aK;refine aG λI a w U=>?_;refine U.o (bO (RM (((ab x.aC (2*s+j).toNat).an.take k).foldl er (pn x s j)) (ab (ab x.aC (2*s+j).toNat).an k) (by have:=w5 ((ab x.aC (2*s+j).toNat).an.take k) (pn x s j);simp at this;omega) (λv hv=>by have:=F4 (λv hv=>ob cj v (List.mem_of_mem_take hv)) (Yj ae.1 fH.1 fH.2 om) v hv;omega) (by have:=ob cj _ (bh aq);omega)) (ax .r (ax (.t rfl) aH))) λU=>?_;refine aX λI a w U=>?_;have U:=U.drop 0;refine U.again (k+1) ?hO ?hP dR ?hZ (by repeat(first|exact Env.le_rfl|refine Env.iy rfl ?_));case hO=>omega
    case hP=>exact aq
    case hZ=>exact(Env.dA rfl dR (Env.dA rfl (by first|exact congrArg bU (by rw[vA aq,<-Yf,Ik,if_pos (Yk aK)])|exact congrArg bU (by rw[vA aq,er,if_neg (Yl aK)])) Env.le_nil))
   change(eK _ (ab (ab x.aC (2*s+j).toNat).an k).aU).isSome=true at aK;refine aR λI a w U=>?_;have U:=U.drop 0;refine U.again (k+1) ?mV ?mW dR ?mX (by repeat(first|exact Env.le_rfl|refine Env.iy rfl ?_));case mV=>omega
   case mW=>exact aq
   case mX=>exact(Env.dA rfl dR (Env.dA rfl (by first|exact congrArg bU (by rw[vA aq,<-Yf,Ik,if_pos (Yk aK)])|exact congrArg bU (by rw[vA aq,er,if_neg (Yl aK)])) Env.le_nil))
  refine zt ?_;refine aR λI a w U=>?_;refine U.again (j+1) ?mu3 ?aoj dR ?aok (by repeat(first|exact Env.le_rfl|refine Env.iy rfl ?_));case mu3=>omega
  case aoj=>show j+1<=2;omega
  case aok=>exact(Env.dA rfl (by exact congrArg AV.int om) (Env.dA rfl (by exact congrArg bU (by rw[List.take_of_length_le om,EF])) Env.le_nil))
 refine zt ?_;refine c8 ?_;exact congrArg bU (by unfold jc;rw[ae.1,ae.2,show j=2 by omega,aof (pU (o6 ae.1 (i:=(2*s).toNat) om).1)];rfl)
def O1 (s:Server):Bool:=s.up&&!decide (0<((s.waits.length:Int)+s.aE.length)+s.ba.length)
def Yn (s:Server):(!s.up||decide (0<((s.waits.length:Int)+s.aE.length)+s.ba.length))=!O1 s:=by unfold O1;simp
def O2 (s:Server):calm s=(O1 s&&cI s.aD.length λi=>!leaves (ab s.aD i)):=by
 rw[<-ym];rfl
def BM {x:ai} (h:cK x=true) {s:Int} (h0:0<=s) (h1:s<=1):jc x s=cg x s:=by
 unfold jc;rw[h,show aJ s 0 1=true by simp[aJ];omega];rfl
def aol {x:ai} {s:Int} (h0:0<=s) (h1:s<=1):(jc x s).length<=160:=by
 unfold jc;split
 .rename_i h;rw[Bool.and_eq_true] at h;have ca:=ga (o6 h.1 (i:=(2*s).toNat) om).1;have cb:=ga (o6 h.1 (i:=(2*s+1).toNat) om).1;have:=w5 (ab x.aC (2*s+1).toNat).an (ab x.aC (2*s).toNat).an;unfold cg;omega
 simp
def O3 (x:ai):mI x=((cK x&&cI x.aC.length (yY x))&&(decide (x.al.length=0)&&qH jY (cg x 0) (cg x 1))):=by
 rw[zE];ac_rfl
def aom {x:ai} (h:¬((jc x 0).length:Int)=(jc x 1).length\/0<x.al.length):(decide (x.al.length=0)&&qH jY (jc x 0) (jc x 1))=false:=by
 rcases h with h|h
 .have e:decide ((jc x 0).length=(jc x 1).length)=false:=by rw[decide_eq_false_iff_not];omega
  unfold qH;rw[e];simp
 have e:decide (x.al.length=0)=false:=by rw[decide_eq_false_iff_not];omega
 rw[e];rfl
def Yo {x:ai} (h:((jc x 0).length:Int)=(jc x 1).length/\x.al.length<=0):(decide (x.al.length=0)&&qH jY (jc x 0) (jc x 1))=cI (jc x 0).length λi=>jY (ab (jc x 0) i) (ab (jc x 1) i):=by
 have e:decide ((jc x 0).length=(jc x 1).length)=true:=by rw[decide_eq_true_eq];omega
 have e2:decide (x.al.length=0)=true:=by rw[decide_eq_true_eq];omega
 unfold qH;rw[e,e2];simp
def aon (x:ai) (nO:∀q∈x.calls,q.au.length<=1048576):
 Fn prog 15 [x.av] (AV.bool (mI x)):=by
 refine Fn.go 104 func15 ntmps15 (λW I a U=>?_);have lens:x.aC.length<=9223372036854775807/\x.al.length<=9223372036854775807/\x.calls.length<=9223372036854775807/\x.seen.length<=9223372036854775807:=⟨U.ln 0 1,U.ln 0 2,U.ln 0 3,U.ln 0 4⟩;refine bk λI a w U=>?_;refine U.o (.c1 (G8 x nO)) λU=>?_;refine aB λI a w U=>?_;refine U.cd (λae=>?_) λae=>?_
 .replace ae:=nt ae;refine bf ?_;exact bB (by rw[zE];rw[ae];rfl)
 replace ae:=nf ae;refine aB λI a w U=>?_;refine St.lo (σ:=Nat) (run 3 2 (run 62 11 [])) ⟨λk=>[(3,AV.int k)],λk=>[],λk=>k<=x.aC.length/\∀i,i<k->(yY x) i=true⟩ (λk=>x.aC.length-k) 0 U ?aI ?bF;case aI=>exact⟨Nat.zero_le _,λi hi=>by omega⟩
 rintro k I a w ao U;obtain⟨mU,aM⟩:=ao;refine cF λI a w U=>?_;refine cz (λah=>?_) λah=>?_
 .have h4:=(zf ae (k:=0) om).2.1;obtain⟨ca,cw,co,ck,cs⟩:=o6 ae (i:=k) om;have l1:=ga cw;have l2:=iP co;have l3:=iP ck;refine aB λI a w U=>?_;refine U.cd (λaq=>?_) λaq=>?_
  .rw[Yn] at aq;replace aq:=nt aq;refine bf ?_;exact bB (by rw[zE];rw[eI (f:=yY x) ah (by show calm _=false;rw[O2,aq];rfl)];simp)
  rw[Yn] at aq;replace aq:=nf aq;refine aB λI a w U=>?_;refine St.lo (σ:=Nat) (2::(4::(run 22 51 []))) ⟨λk2=>[(4,AV.int k2)],λk2=>[],λk2=>k2<=(ab x.aC k).aD.length/\∀i,i<k2->(λi=>!leaves (ab (ab x.aC k).aD i)) i=true⟩ (λk2=>(ab x.aC k).aD.length-k2) 0 U ?eo ?jK;case eo=>exact⟨Nat.zero_le _,λi hi=>by omega⟩
  rintro k2 I a w ao U;obtain⟨xu,iZ⟩:=ao;refine oE λI a w U=>?_;refine cz (λaK=>?_) λaK=>?_
  .refine Ai λI a w U=>?_;refine U.cd (λaS=>?_) λaS=>?_
   .change leaves (ab (ab x.aC k).aD k2)=true at aS;refine bf ?_;exact bB (by rw[zE];rw[eI (f:=yY x) ah (by show calm _=false;rw[O2,eI (f:=λi=>!leaves (ab (ab x.aC k).aD i)) aK (by rw[aS];rfl)];simp)];simp)
   change leaves (ab (ab x.aC k).aD k2)=false at aS;refine aR λI a w U=>?_;exact U.ag (k2+1) (⟨by omega,eY iZ (by rw[aS];rfl)⟩)
  refine zt ?_;refine aR λI a w U=>?_;exact U.ag (k+1) (⟨by omega,eY aM (by show calm _=true;rw[O2,aq,eX iZ om];rfl)⟩)
 refine zt ?_;refine U.o .la λU=>?_;refine U.o (.cl (Ym x 0 nO)) λU=>?_;refine aG λI a w U=>?_;refine U.o (.cl (Ym x 1 nO)) λU=>?_;refine yg λI a w U=>?_;refine cz (λbA=>?_) λbA=>?_
 .refine bf ?_;exact bB (by rw[O3,<-BM ae (s:=0) om om,<-BM ae (s:=1) om om,aom (by simpa using bA)];simp)
 refine aB λI a w U=>?_;refine St.lo (σ:=Nat) (2::(7::(run 16 88 []))) ⟨λk3=>[(7,AV.int k3)],λk3=>[],λk3=>k3<=(jc x 0).length/\∀i,i<k3->(λi=>jY (ab (jc x 0) i) (ab (jc x 1) i)) i=true⟩ (λk3=>(jc x 0).length-k3) 0 U ?iD ?od;case iD=>exact⟨Nat.zero_le _,λi hi=>by omega⟩
 rintro k3 I a w ao U;obtain⟨GK,ov⟩:=ao;refine aX λI a w U=>?_;refine cz (λbt=>?_) λbt=>?_
 .refine zt ?_;refine U.dk ?_;refine ny ?_;refine .o (.c2 (aoh ..)) ?_;refine bG ?_;refine .nil ?_;intro I a w U;refine bm ?_;refine U.cd (λcr=>?_) λcr=>?_
  .replace cr:=nt cr;refine bf ?_;exact bB (by rw[O3,<-BM ae (s:=0) om om,<-BM ae (s:=1) om om,Yo (by simpa using bA),eI (f:=λi=>jY (ab (jc x 0) i) (ab (jc x 1) i)) bt cr];simp)
  replace cr:=nf cr;refine bD λI a w U=>?_;refine U.o (lW .tt .c (λ_=>by have:=aol (x:=x) (s:=0) om om;omega)) λU=>?_;refine aB λI a w U=>?_;exact U.ag (k3+1) (⟨by omega,eY ov cr⟩)
 refine zt ?_;refine bf ?_;exact bB (by rw[O3,<-BM ae (s:=0) om om,<-BM ae (s:=1) om om,Yo (by simpa using bA),ae,eX aM om,eX ov om];rfl)
def tq (w x:ai):Prop:=∀v,(∃τ,be x τ v)->∃τ,be w τ v
def Yp {w x:ai} (h:Inv x) (hk:∀m∈x.al,m.kind≠1) (ho:tq w x) (e:Ev):tq w (bR x e):=λv ⟨τ,hv⟩=>by
 unfold bR at hv;split at hv
 .rcases Hw h e hv with h1|⟨i,m,_,hm,_,hn⟩
  .exact ho v h1
  exact absurd hn.kind (hk m hm)
 exact ho v ⟨τ,hv⟩
def Il {w x:ai} (h:gE x) (hr:Rest x) (ho:tq w x) {i:Nat} (hi:i<4):tq w (eP x i):=by
 have h0:=Nx h hr hi;have h1:tq w (bR x (ev 8 (i:Int) 0)):=Yp h.calm.inv (λm hm=>by rw[h.al] at hm;simp at hm) ho _;exact(pg (R:=λy=>Phase x 5 y/\tq w y) (λy m r hy hx=>⟨hy.1.pop aP hx,Yp hy.1.calm.inv (λm hm=>by have:=hy.1.kinds m hm;omega) hy.2 _⟩) 1000 ⟨h0,h1⟩).2
def aoo {w x:ai} {r:Int} (h:ie x r) (ho:tq w x):tq w (jb x):=by
 obtain⟨q1,_⟩:=h.j3 (i:=0) aP;obtain⟨q2,_⟩:=q1.j3 (i:=1) aP;obtain⟨q3,_⟩:=q2.j3 (i:=2) aP;exact Il q3.still q3.rest (Il q2.still q2.rest (Il q1.still q1.rest (Il h.still h.rest ho aP) aP) aP) aP
def Yq {w:ai}:∀(n:Nat) {x:ai} {r:Int},ie x r->kD x->x.time+850*n<=79999->tq w x->tq w (bl n x)
 |0,_,_,_,_,_,ho=>ho
 |n+1,x,r,h,he,ht,ho=>by
  obtain⟨e,q,pH⟩:=XZ h he;have g:=BG h.still.calm.inv h.still.calm.more;unfold bl;rw[if_pos om];refine Yq n q pH (by have:=g.time;omega) ?_;rw[e];exact aoo h ho
def aop {w x:ai} (hw:ie w 20) (hx:ie x 20) (ho:tq w x) (hg:∀σ v,be w σ v->be x σ v) {σ τ:Nat} (hσ:σ<2) (hτ:τ<2):cg x (σ:Int)=cg w (τ:Int):=
 NA (zB hx.still.calm.inv hσ) (zB hw.still.calm.inv hτ) λv=>by
  rw[kH hx.still.calm.inv hσ,kH hw.still.calm.inv hτ];exact⟨λhv=>by obtain⟨ρ,h1⟩:=ho v ⟨σ,hv⟩;exact HD hw hτ h1,λhv=>HD hx hσ (hg τ v hv)⟩
def aoq {w:ai} (h:ie w 20) (he:kD w) (n:Nat) (ht:w.time+850*n<=79999):ie (bl n w) 20/\kD (bl n w)/\mI (bl n w)=true/\(∀σ:Nat,σ<2->cg (bl n w) (σ:Int)=cg w (σ:Int))/\(bl n w).calls=w.calls/\∀j,j<4->(sv (bl n w) j).aD=(sv w j).aD:=by
 obtain⟨q,e,g,s,k⟩:=Oq n h he ht;have q2:=q.less (s:=20) om;exact⟨q2,e,NC q2 (by have:=g.time;omega),λσ hσ=>aop h q2 (Yq n h he ht λv hv=>hv) g.eC hσ hσ,k,s⟩
def aor {w:ai} (h:Inv w) (hm:iH w) (U:mI w=true):ie w 20:=by
 unfold mI at U;simp only[Bool.and_eq_true,decide_eq_true_eq] at U;obtain⟨⟨⟨_,h2⟩,h3⟩,_⟩:=U;rw[h.aN.aC] at h3;have hc:∀i,i<4->(sv w i).up=true/\((sv w i).waits.length=0/\(sv w i).aE.length=0)/\hasB (λx:de=>x.cm==2) (sv w i).aD=false:=λi hi=>by
  have:=gF.1 h3 i hi;have e:_root_.Go.Proofs.YtldbakcpcfdlaaaGreat.calm (sv w i)=true:=this;unfold calm at e;simp only[Bool.and_eq_true,Bool.not_eq_true',decide_eq_false_iff_not] at e;exact⟨e.1.1,by omega,e.2⟩
 refine⟨⟨⟨h,hm,λi hi=>(hc i hi).1⟩,List.length_eq_zero_iff.1 h2⟩,λi hi k hk e=>?_,λi hi=>List.length_eq_zero_iff.1 (hc i hi).2.1.2,λi hi v hv=>?_⟩
 .have hb:=(hc i hi).2.2;rw[<-Bool.not_eq_true,CP] at hb;exact hb ⟨_,bh (l:=(sv w i).aD) (k:=k) (by rw[(h.cT hi).aD];exact hk),by rw[e];rfl⟩
 rw[List.length_eq_zero_iff.1 (hc i hi).2.1.1] at hv;simp at hv
def aos {w:ai} (h:Inv w) (hm:iH w) (ht:w.time<=70000) (U:mI w=true) (he:kD w):mI (bl 2 w)=true/\cg (bl 2 w) 0=cg w 0/\(bl 2 w).calls=w.calls:=by
 obtain⟨_,_,a,b,c,_⟩:=aoq (aor h hm U) he 2 om;exact⟨a,b 0 aP,c⟩
def aot {x:ai} {s:Int} {l:List aA} (ao:cK x=true) (u7:0<=s/\s<=1) (h:cg x s=l):Fn prog 20 [x.av,AV.int s] (bU l):=h▸M6 x s ao u7
def Yr {w:ai}:∀{k},nJ w k=0->∀n,n<k->bV (ab w.calls n)=false
 |0,_,n,hn=>by omega
 |k+1,h,n,hn=>by
  have h:nJ w k+(if bV (ab w.calls k)=true then 1 else 0)=0:=h;by_cases hw:bV (ab w.calls k)=true
  .rw[if_pos hw] at h;omega
  rcases Nat.lt_succ_iff_lt_or_eq.1 hn with h1|h1
  .exact Yr (k:=k) om n h1
  rw[h1];simpa using hw
def Io (x:ai) (e:Ev) (hg:bX x) (ht:x.time<=999999):
 Fn prog 167 [x.av,e.av] ((bR x e).av):=by
 refine Fn.go 17 func167 ntmps167 (λW I a U=>?_);refine aG λI a w U=>?_;refine U.alloc rfl dP dW λb4 I a w U=>?_;refine aG λI a w U=>?_;refine U.o (.c2 (NT x e hg ht)) λU=>?_;refine bk λI a w U=>?_;refine U.alloc rfl dP dW λb5 I a w U=>?_;refine U.sb 1 λU=>?_;obtain⟨I,U⟩:=U.fb 1 5;refine aR λI a w U=>?_;refine cz (λae=>?_) λae=>?_
 .refine aF λI a w U=>?_;refine U.ret rfl (.cons (.sx 0) aV.nil) ?_;rw[show bR x e=x from by unfold bR;rw[if_neg (by rw[ae];simp)]];rfl
 refine aF λI a w U=>?_;refine U.ret rfl (.cons (.sx 0) aV.nil) ?_;rw[show bR x e=(cD x e).1 from by unfold bR;rw[if_pos ae]];rfl
def O4 (x:ai) (hg:bX x) (ht:x.time<=98000):
 Fn prog 168 [x.av] ((dm 1000 x).av):=by
 refine Fn.go 18 func168 ntmps168 (λW I a U=>?_);refine sr<|U.box rfl .tt λb1 I a w U=>U.alloc rfl dP dW λb2 I a w U=>?_;refine aB λI a w U=>?_;refine St.lo (σ:=Nat×ai) (run 14 3 []) ⟨λ⟨k,y⟩=>[(3,AV.int k)],λ⟨k,y⟩=>[Own.box b1 28 y.cells,Own.box b2 28 [AV.val (.int .i64 0),AV.rows 7 [],AV.rows 15 [],AV.rows 13 [],AV.rows 1 []]],λ⟨k,y⟩=>k<=1000/\zC x y k⟩ (λ⟨k,y⟩=>1000-k) (0,x) U ?aI ?bF;case aI=>exact⟨by omega,hg,by omega,rfl⟩
 rintro⟨k,y⟩ I a w ao U;obtain⟨hk,hp⟩:=ao;have zO:=hp.time;have kK:=hp.aN.al;dsimp only at U;refine pJ λI a w U=>?_;refine tN (λae=>?_) λae=>?_
 .obtain⟨h1,h2⟩:=ae;refine bD λI a w U=>?_;refine U.o (.bd gO (.k aZ.nil)) λU=>?_;refine U.o (bO (Io y (ev 4 0 0) hp.aN om) (ax (.t rfl) (ax (.t rfl) aH))) λU=>?_;refine aX λI a w U=>?_;exact U.ag (k+1,bR y (ev 4 0 0)) (⟨by show k+1<=1000;omega,hp.next ht om om⟩)
 simp only[B,Bool.and_eq_false_iff] at ae;refine wp_exit<|cB<|cB<|fo<|bm<|wp_seq ?_;have hy:=(hp.stop om).symm;subst hy;refine aF λI a w U=>?_;refine U.ret rfl (.cons (.sx 1) aV.nil) ?_;rfl
def aou (x:ai) (hg:bX x) (ht:x.time<=80000):
 Fn prog 85 [x.av] ((eD x).av):=by
 refine Fn.go 35 func85 ntmps85 (λW I a U=>?_);refine sr<|U.box rfl .tt λb1 I a w U=>U.alloc rfl dP dW λb2 I a w U=>?_;refine aB λI a w U=>?_;refine St.lo (σ:=Nat×ai) (3::(run 8 6 [])) ⟨λ⟨k,y⟩=>[(3,AV.int k)],λ⟨k,y⟩=>[Own.box b1 28 y.cells,Own.box b2 28 [AV.val (.int .i64 0),AV.rows 7 [],AV.rows 15 [],AV.rows 13 [],AV.rows 1 []]],λ⟨k,y⟩=>k<=4/\tk (λ(w:ai) (i:Nat)=>bR w (ev 7 i 0)) 1 x y k⟩ (λ⟨k,y⟩=>4-k) (0,x) U ?aI ?bF;case aI=>exact⟨by omega,.zero (by assumption)⟩
 rintro⟨k,y⟩ I a w ao U;obtain⟨hk,hp⟩:=ao;have zO:=hp.time;have tp:=hp.aN;dsimp only at U;refine aF λI a w U=>?_;refine cz (λae=>?_) λae=>?_
 .refine aG λI a w U=>?_;refine U.o (.bd gO (.k (.k aZ.nil))) λU=>?_;refine U.o (bO (Io y (ev 7 k 0) hp.aN om) (ax (.t rfl) (ax (.t rfl) aH))) λU=>?_;refine aX λI a w U=>?_;exact U.ag (k+1,bR y (ev 7 k 0)) (⟨by show k+1<=4;omega,hp.next (tj tp om _) (nc y _)⟩)
 refine wp_exit<|cB<|cB<|fo<|bm<|wp_seq ?_;obtain rfl:k=4:=by omega
 have hy:iJ x=y:=hp.eq.symm;subst hy;have mf:=hp.aN;have xL:=hp.time;refine bD λI a w U=>?_;refine U.o (bO (O4 (iJ x) mf om) (ax (.t rfl) aH)) λU=>?_;refine aB λI a w U=>?_;have qF:=v8 mf om;have anT:=qF.1;have anU:=qF.2;refine aB λI a w U=>?_;refine St.lo (σ:=Nat×ai) (4::(run 9 16 [])) ⟨λ⟨k,y⟩=>[(4,AV.int k)],λ⟨k,y⟩=>[Own.box b1 28 y.cells,Own.box b2 28 [AV.val (.int .i64 0),AV.rows 7 [],AV.rows 15 [],AV.rows 13 [],AV.rows 1 []]],λ⟨k,y⟩=>k<=4/\tk eP 1001 (dm 1000 (iJ x)) y k⟩ (λ⟨k,y⟩=>4-k) (0,(dm 1000 (iJ x))) U ?eo ?jK;case eo=>exact⟨by omega,.zero (by assumption)⟩
 rintro⟨k,y⟩ I a w ao U;obtain⟨hk,hp⟩:=ao;have zO:=hp.time;have tp:=hp.aN;dsimp only at U;refine aF λI a w U=>?_;refine cz (λah=>?_) λah=>?_
 .refine wp_skip<|bm<|wp_seq<|wp_block ?_;have hl:=tj tp om (ev 8 k 0);have bz:=nc y (ev 8 k 0);have hd:=v8 hl om;refine aG λI a w U=>?_;refine U.o (.bd gO (.k (.k aZ.nil))) λU=>?_;refine U.o (bO (Io y (ev 8 k 0) hp.aN om) (ax (.t rfl) (ax (.t rfl) aH))) λU=>?_;refine U.o (bO (O4 (bR y (ev 8 k 0)) hl om) (ax (.t rfl) aH)) λU=>?_;refine aX λI a w U=>?_;rw[HA] at U;exact U.ag (k+1,eP y k) (⟨by show k+1<=4;omega,hp.next hd.1 (by have:=hd.2;rw[HA] at this;omega)⟩)
 refine wp_exit<|cB<|cB<|fo<|bm<|wp_seq<|wp_seq ?_;obtain rfl:k=4:=by omega
 have hy:((List.range 4).foldl eP (dm 1000 (iJ x)))=y:=hp.eq.symm;subst hy;have X8:=hp.aN;have ht3:=hp.time;refine aB λI a w U=>?_;refine St.lo (σ:=Nat×ai) (5::(run 9 25 [])) ⟨λ⟨k,y⟩=>[(5,AV.int k)],λ⟨k,y⟩=>[Own.box b1 28 y.cells,Own.box b2 28 [AV.val (.int .i64 0),AV.rows 7 [],AV.rows 15 [],AV.rows 13 [],AV.rows 1 []]],λ⟨k,y⟩=>k<=2/\tk fm 1001 ((List.range 4).foldl eP (dm 1000 (iJ x))) y k⟩ (λ⟨k,y⟩=>2-k) (0,((List.range 4).foldl eP (dm 1000 (iJ x)))) U ?iD ?od;case iD=>exact⟨by omega,.zero (by assumption)⟩
 rintro⟨k,y⟩ I a w ao U;obtain⟨hk,hp⟩:=ao;have zO:=hp.time;have tp:=hp.aN;dsimp only at U;refine aF λI a w U=>?_;refine cz (λaq=>?_) λaq=>?_
 .refine wp_skip<|bm<|wp_seq<|wp_block ?_;have hl:=tj tp om (ev 2 0 k);have bz:=nc y (ev 2 0 k);have hd:=v8 hl om;refine aG λI a w U=>?_;refine U.o (.bd gO (.k (.k aZ.nil))) λU=>?_;refine U.o (bO (Io y (ev 2 0 k) hp.aN om) (ax (.t rfl) (ax (.t rfl) aH))) λU=>?_;refine U.o (bO (O4 (bR y (ev 2 0 k)) hl om) (ax (.t rfl) aH)) λU=>?_;refine aX λI a w U=>?_;rw[HB] at U;exact U.ag (k+1,fm y k) (⟨by show k+1<=2;omega,hp.next hd.1 (by have:=hd.2;rw[HB] at this;omega)⟩)
 refine wp_exit<|cB<|cB<|fo<|bm<|wp_seq ?_;obtain rfl:k=2:=by omega
 have hy:eD x=y:=hp.eq.symm;subst hy;refine aF λI a w U=>?_;refine U.ret rfl (.cons (.sx 1) aV.nil) ?_;rfl
def aov (x:ai) (r:Int) (nO:∀q∈x.calls,q.au.length<=1048576):
 Fn prog 32 [x.av,AV.int r] ((zQ x r).av):=by
 refine Fn.go 31 func32 ntmps32 (λW I a U=>?_);refine bD λI a w U=>?_;refine U.alloc rfl dP dW λb4 I a w U=>?_;refine bD λI a w U=>?_;refine U.o (.c1 (G8 x nO)) λU=>?_;refine aB λI a w U=>?_;refine cz (λae=>?_) λae=>?_
 .refine zt ?_;refine U.o (.bd dW aZ.nil) λU=>?_;refine aB λI a w U=>?_;refine U.ret rfl (.cons (.sx 0) aV.nil) ?_;rw[show zQ x r=Lb from by unfold zQ;rw[ae];rfl];rfl
 have vg:=fD.1 ae;have hg:=vg.1;refine bD λI a w U=>?_;refine U.o (.c1 (D7 x hg.small)) λU=>U.alloc rfl dP dW λb5 I a w U=>?_;refine aF λI a w U=>?_;refine St.lo (σ:=Nat×ai) (6::(run 16 13 [])) ⟨λ⟨k,y⟩=>[(6,AV.int k)],λ⟨k,y⟩=>[Own.box b4 28 [AV.val (.int .i64 0),AV.rows 7 [],AV.rows 15 [],AV.rows 13 [],AV.rows 1 []],Own.box b5 28 y.cells],λ⟨k,y⟩=>k<=40/\zD (min r 40).toNat x y k⟩ (λ⟨k,y⟩=>40-k) (0,x) U ?aI ?bF;case aI=>exact⟨by omega,hg,vg.2,rfl⟩
 rintro⟨k,y⟩ I a w ao U;obtain⟨hk,hp⟩:=ao;dsimp only at U;refine yg λI a w U=>?_;refine tN (λah=>?_) λah=>?_
 .obtain⟨⟨h1,h2⟩,h3⟩:=ah;refine bD λI a w U=>?_;refine U.o (bO (aou y hp.aN om) (ax (.t rfl) aH)) λU=>?_;refine aX λI a w U=>?_;exact U.ag (k+1,eD y) (⟨by show k+1<=40;omega,hp.next om om⟩)
 simp only[B,Bool.and_eq_false_iff] at ah;refine wp_exit<|cB<|cB<|fo<|bm<|wp_seq ?_;have hy:=hp.stop om;refine bD λI a w U=>?_;refine U.o (.c1 (D7 y hp.aN.small)) λU=>?_;refine aB λI a w U=>?_;refine U.ret rfl (.cons (.sx 0) aV.nil) ?_;rw[show zQ x r=y from by unfold zQ;rw[if_pos ae];exact hy.symm];rfl
def Reach.inv {w:ai} (h:Reach w):Inv w/\iH w:=by
 induction h with
 |start=>exact⟨Nr,V7⟩
 |step _ ao ih=>exact⟨ih.1.step _ ao,ih.2.step ih.1 _⟩
def Ip {w:ai} (h:Reach w) (e:Ev):Reach (bR w e):=by
 unfold bR;split
 .exact h.step ‹_›
 exact h
def Iq:∀(n:Nat) {w:ai},Reach w->Reach (dm n w)
 |0,_,h=>h
 |n+1,w,h=>by
  unfold dm;split
  .exact h
  exact Iq n (Ip h _)
def aow {w:ai} (h:Reach w):Reach (eD w):=by
 have h1:Reach (iJ w):=by unfold iJ;exact yX (R:=Reach) (f:=λ(w:ai) (i:Nat)=>bR w (ev 7 i 0)) (λ_ _ hx=>Ip hx _) (List.range 4) h
 have h2:=yX (R:=Reach) (f:=eP) (λx i hx=>by unfold eP;exact Iq 1000 (Ip hx _)) (List.range 4) (Iq 1000 h1);have h3:=yX (R:=Reach) (f:=fm) (λx i hx=>by unfold fm;exact Iq 1000 (Ip hx _)) (List.range 2) h2;unfold eD;exact h3
def O5:∀(n:Nat) {w:ai},Reach w->Reach (bl n w)
 |0,_,h=>h
 |n+1,w,h=>by
  unfold bl;split
  .exact O5 n (aow h)
  exact h
def O6:∀(n:Nat) (w:ai),(bl n w).time<=w.time+7010*n
 |0,w=>by show w.time<=_;omega
 |n+1,w=>by
  unfold bl;split
  .have h1:=O6 n (eD w);have h2:=Nw w;omega
  omega
def aox {w:ai} (h:Reach w) (ht:w.time<=70000) (U:mI w=true) (he:nJ w w.calls.length=0):cK w=true/\cK (bl 2 w)=true/\mI (bl 2 w)=true/\cg (bl 2 w) 0=cg w 0/\(bl 2 w).calls=w.calls:=by
 obtain⟨h1,h2⟩:=h.inv;have ao:cK w=true:=fD.2 ⟨h1.aN,by omega⟩;obtain⟨a,b,c⟩:=aos h1 h2 ht U (Yr he);exact⟨ao,Ej 2 ao,a,b,c⟩
def O7 (br:Nat) (code:List UInt8) (p n:Int) (hp:0<=p/\p<=1099511627775) (hb:code.length<=1099511627776):dp prog 54 [AV.val (.pointer (some ⟨br,0,none⟩)),AV.int n] [Own.box br 147 [gn code,AV.int (p)]] (λr:Int×Int=>0<=r.1/\(0<n->r.1<n)/\r.2=p+1) (λr=>[Own.box br 147 [gn code,AV.int (r.2)]]) (λr=>AV.int r.1):=
 dp.conv (gK br code p n hp hb) λ_ _=>⟨(dK code p n,p+1),⟨iY ..,λh=>jm code p h,rfl⟩,rfl,rfl⟩
def aoy {x:ai} (ao:cK x=true) (n:Nat) (hn:n<=40):Fn prog 32 [x.av,AV.int n] (bl n x).av:=by
 have h:=aov x n (fD.1 ao).1.au;rwa[show zQ x n=bl n x from by unfold zQ;rw[if_pos ao,show(min (n:Int) 40).toNat=n by omega]] at h
def aoz {w:ai} {l:List Ev} {v:Value} {n:Nat} (h:c9 n ⟨w,l,v⟩):c9 (n+35050) ⟨bl 5 w,l,v⟩:=
 ⟨O5 5 h.reach,by have h1:=O6 5 w;have h2:w.time<=n:=h.time;show(bl 5 w).time<=_;omega,by have h1:l.length<=n:=h.len;show l.length<=_;omega,h.fit⟩
def aoA (code:List UInt8) (bq:code.length<=1099511627776):
 Ah prog 14 [gn code] (λy:ai=>Reach y/\y.time<=70000) ai.av:=by
 refine Ah.intro 29 func14 rfl ntmps14 rfl aO (λW I a U=>?_);refine sr<|U.alloc rfl dP dW λb2 I a w U=>?_;refine bD λI a w U=>?_;refine U.cY [] (T5 code bq) (ax .r aH) rfl aP rfl λr6 I a w GV U=>?_;obtain⟨br,cd⟩:=r6;replace GV:cd.length<=1099511627776:=GV;have iv:=GV;change St _ _ [Own.box b2 28 [AV.val (.int .i64 0),AV.rows 7 [],AV.rows 15 [],AV.rows 13 [],AV.rows 1 []],Own.box br 147 [gn cd,AV.int (0)]] _ _ _ at U;refine aG λI a w U=>?_;refine U.cY [1] (X7 br cd iv 0 0 om om om 16 om) (ax .tt (ax .c aH)) rfl aP rfl λr8 I a w O8 U=>?_;obtain⟨bs,s1,p1⟩:=r8;replace O8:c9 (0+26000) s1/\0<=p1/\p1<=((0+26000:Nat):Int):=O8;obtain⟨il,qw,DT⟩:=O8;obtain⟨w1,l1,v1⟩:=s1;have mf:=il.reach.aN;replace mf:bX w1:=mf;have xL:=il.time;replace xL:w1.time<=((0+26000:Nat):Int):=xL;have OW:cK w1=true:=fD.2 ⟨mf,by omega⟩;change St _ _ [Own.box b2 28 [AV.val (.int .i64 0),AV.rows 7 [],AV.rows 15 [],AV.rows 13 [],AV.rows 1 []],Own.box bs 91 [AV.val (.pointer (some ⟨br,0,none⟩)),AV.int w1.time,lG w1.aC,dM w1.al,iL w1.calls,j8 w1.seen,AV.val v1],Own.row v1 49 11 (l1.map Ev.cells),Own.box br 147 [gn cd,AV.int (p1)]] _ _ _ at U;refine aG λI a w U=>?_;refine U.cY [3] (O7 br cd (p1) (4) om iv) (ax .tt (ax .c aH)) rfl aP rfl λ⟨OS,q10⟩ I a w qe U=>?_;replace qe:0<=OS/\(0<(4:Int)->OS<(4))/\q10=p1+1:=qe;obtain⟨atG,atH,rfl⟩:=qe;have U:=U.nf;refine aB λI a w U=>?_;refine U.cd (λae=>?_) λae=>?_
 .refine bY λI a w U=>?_;refine U.o (bO (aoy OW 5 om) (ax (.t rfl) (ax .c aH))) λU=>?_;refine aG λI a w U=>?_;refine U.rV 1 dP .tt .tt rfl rfl rfl λa w U=>wpList_nil ?_;change St _ _ [Own.box b2 28 [AV.val (.int .i64 0),AV.rows 7 [],AV.rows 15 [],AV.rows 13 [],AV.rows 1 []],Own.box bs 91 [AV.val (.pointer (some ⟨br,0,none⟩)),AV.int (bl 5 w1).time,lG (bl 5 w1).aC,dM (bl 5 w1).al,iL (bl 5 w1).calls,j8 (bl 5 w1).seen,AV.val v1],Own.row v1 49 11 (l1.map Ev.cells),Own.box br 147 [gn cd,AV.int (p1+1)]] _ _ _ at U;refine bD λI a w U=>?_;refine U.cY [3] (O7 br cd (p1+1) (3) om iv) (ax .tt (ax .c aH)) rfl aP rfl λ⟨EG,O9⟩ I a w zR U=>?_;replace zR:0<=EG/\(0<(3:Int)->EG<(3))/\O9=p1+1+1:=zR;obtain⟨aoC,aoD,rfl⟩:=zR;have U:=U.nf;refine aB λI a w U=>?_;refine U.cd (λah=>?_) λah=>?_
  .refine bD λI a w U=>?_;refine U.cY [1,2,3] (Ox bs br cd iv ⟨bl 5 w1,l1,v1⟩ (p1+1+1) 61050 ((aoz il).mono om) om om om 0) (ax .tt (ax .c aH)) rfl aP rfl λPa I a w wo U=>?_;obtain⟨⟨oz,EH,oh⟩,zS⟩:=Pa;replace wo:c9 (61050+850) ⟨oz,EH,oh⟩/\0<=zS/\zS<=((61050+850:Nat):Int):=wo;have EI:=wo.1.reach;have Pb:=wo.1.time;dsimp only at EI Pb;change St _ _ [Own.box b2 28 [AV.val (.int .i64 0),AV.rows 7 [],AV.rows 15 [],AV.rows 13 [],AV.rows 1 []],Own.box bs 91 [AV.val (.pointer (some ⟨br,0,none⟩)),AV.int oz.time,lG oz.aC,dM oz.al,iL oz.calls,j8 oz.seen,AV.val oh],Own.row oh 49 11 (EH.map Ev.cells),Own.box br 147 [gn cd,AV.int (zS)]] _ _ _ at U;refine cF λI a w U=>?_;refine U.dx oz [] rfl (.cons (.sx 0) .nil) ⟨EI,by omega⟩ rfl rfl
  refine cF λI a w U=>?_;refine U.dx (bl 5 w1) [] rfl (.cons (.sx 0) .nil) ⟨O5 5 il.reach,by have:=O6 5 w1;omega⟩ rfl rfl
 refine bD λI a w U=>?_;refine U.cY [3] (O7 br cd (p1+1) (3) om iv) (ax .tt (ax .c aH)) rfl aP rfl λ⟨EG,O9⟩ I a w zR U=>?_;replace zR:0<=EG/\(0<(3:Int)->EG<(3))/\O9=p1+1+1:=zR;obtain⟨aoC,aoD,rfl⟩:=zR;have U:=U.nf;refine aB λI a w U=>?_;refine U.cd (λaq=>?_) λaq=>?_
 .refine bD λI a w U=>?_;refine U.cY [1,2,3] (Ox bs br cd iv ⟨w1,l1,v1⟩ (p1+1+1) 26010 (il.mono om) om om om 0) (ax .tt (ax .c aH)) rfl aP rfl λPa I a w wo U=>?_;obtain⟨⟨oz,EH,oh⟩,zS⟩:=Pa;replace wo:c9 (26010+850) ⟨oz,EH,oh⟩/\0<=zS/\zS<=((26010+850:Nat):Int):=wo;have EI:=wo.1.reach;have Pb:=wo.1.time;dsimp only at EI Pb;change St _ _ [Own.box b2 28 [AV.val (.int .i64 0),AV.rows 7 [],AV.rows 15 [],AV.rows 13 [],AV.rows 1 []],Own.box bs 91 [AV.val (.pointer (some ⟨br,0,none⟩)),AV.int oz.time,lG oz.aC,dM oz.al,iL oz.calls,j8 oz.seen,AV.val oh],Own.row oh 49 11 (EH.map Ev.cells),Own.box br 147 [gn cd,AV.int (zS)]] _ _ _ at U;refine cF λI a w U=>?_;refine U.dx oz [] rfl (.cons (.sx 0) .nil) ⟨EI,by omega⟩ rfl rfl
 refine cF λI a w U=>?_;refine U.dx w1 [] rfl (.cons (.sx 0) .nil) ⟨il.reach,by omega⟩ rfl rfl
def Yw (code:List UInt8):
 Fn prog 3 [gn code] (AV.bool true):=by
 refine Fn.go 44 func3 ntmps3 (λW I a U=>?_);have hle:=U.eE (t:=0) rfl;refine aX λI a w U=>?_;refine cz (λae=>?_) λae=>?_
 .refine bf ?_;rfl
 refine bD λI a w U=>?_;refine U.cY [] (aoA code om) (ax .r aH) rfl aP rfl λx I a w qe U=>?_;replace qe:Reach x/\x.time<=70000:=qe;have Pc:=qe.1.aN;have aoE:=Pc.small.2.2.1.1;refine U.alloc rfl dP dW λb3 I a w U=>?_;refine aB λI a w U=>?_;obtain⟨I,U⟩:=U.fb 0 3;refine U.o .la λU=>?_;refine U.o (.c1 (aon x Pc.au)) λU=>?_;refine aG λI a w U=>?_;refine U.o (.c1 (WY x Pc.Fit aoE)) λU=>U.m λU=>U.o (B8 .tt .tt wP) λU=>?_;refine zt ?_;refine U.cd (λah=>?_) λah=>?_
 .exfalso;simp at ah;skip
 refine bx λI a w U=>?_;refine U.q .F (bO (XC x om) (ax .ag aH)) λU=>?_;refine aF λI a w U=>?_;refine Cy (λaq=>?_) λaq=>?_
 .refine bf ?_;rfl
 have aM:=aox qe.1 qe.2 aq.1 om;refine bD λI a w U=>?_;refine U.o (bO (Ya x aM.1) (ax .tt (ax .c aH))) λU=>U.alloc rfl dP dW λb5 I a w U=>?_;refine aB λI a w U=>?_;obtain⟨I,U⟩:=U.fb 1 5;have qj:(bl 2 x).calls.length=x.calls.length:=by rw[aM.2.2.2.2]
 refine U.dk ?_;refine bG ?_;refine .o (bO (NO aM.2.1 aM.2.2.1) (ax .tt aH)) ?_;refine cG ?_;refine .q .T (bO (aot aM.2.1 om aM.2.2.2.1) (ax .ag (ax .c aH))) ?_;refine bG ?_;refine .q .T (bO (M6 x 0 aM.1 om) (ax .ag (ax .c aH))) ?_;refine .q .T (.cl (C7 (cg x 0))) ?_;refine Q3 ?_;refine .nil ?_;intro I a w U;refine zt ?_;refine U.rt ?_;exact bB (by rw[qj];simp)
end Go.Proofs.YtldbakcpcfdlaaaGreat
