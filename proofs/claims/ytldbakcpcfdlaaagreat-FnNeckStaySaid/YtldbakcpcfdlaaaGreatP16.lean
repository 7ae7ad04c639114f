/- Part 16: contracts of functions, plain facts. -/
import Derived.Test.YtldbakcpcfdlaaaGreatP11
import Derived.Test.YtldbakcpcfdlaaaGreatP12
import Derived.Test.YtldbakcpcfdlaaaGreatP13
import Derived.Test.YtldbakcpcfdlaaaGreatP14
set_option linter.all false
set_option maxRecDepth 100000
set_option maxHeartbeats 4000000
namespace Go.Proofs.YtldbakcpcfdlaaaGreat
open Go Go.RowKit Tryz
attribute [local irreducible] wpList Code.wp Ok
def Uq (n:Int) (hn:gV n):
 Fn prog 145 [AV.int n] (AV.bool (lH n)):=by
 refine Fn.go 10 func145 ntmps145 (λW I a U=>?_);refine aG λI a w U=>?_;refine U.o (.c1 (vE ..)) λU=>?_;refine aG λI a w U=>?_;refine U.q .F (YD (.g rfl (λh=>h)) .c) λU=>?_;refine U.q .F (.cl (Db ..)) λU=>?_;refine c8 ?_;exact bB (by rw[acX hn,adR];rfl)
def Ur {l:List Int} (h:jZ l=true):l.Pairwise (·<·):=by
 have:=SP (f:=λn:Int=>n) (l:=l) λi h0 hi=>by
  have:=(gF.1 h) i hi;unfold fO at this;simp[nI] at this;have h1:=this.2;omega
 simpa using this
def LP (c:Call):List aw:=if c.end_=0 then c.ctx else if c.kind=1 then gI c.ctx ⟨ab c.keys 0,c.ar⟩ else c.au.foldl ub (iX c.ctx (fT c))
def afe {out:List aA} (v:aA) (h:VS out):VS (er out v):=by
 unfold er;split
 .rename_i hp;exact Ke h (pN hp)
 exact h
def GG:∀{l out:List aA},VS out->VS (l.foldl er out)
 |[],_,h=>h
 |v::r,_,h=>GG (l:=r) (afe v h)
def GH {l:List cE} (h:∀s∈l,dB s=true) (k:Nat):0<=jz (l.take k)/\jz (l.take k)<=9999:=La om om λs U=>h s (List.mem_of_mem_take U)
def LQ (l:List aw) (v:aw):(eA l v).length<=l.length+1:=by
 unfold eA;split
 .omega
 rw[SV];exact Nat.le_refl _
def gS (s:Server) (slot:Int):az:=
 {cn with kind:=9,aT:=s.site,to:=fA s.site,slot:=slot,bw:=(ab s.aD slot.toNat).bw,an:=s.an.filter (fj slot),waits:=s.waits.filter (fj slot),aE:=s.aE.filter (gY slot)}
def eV (s:Server) (m:az):aA:=⟨m.key,og s.site (fB s m),m.val,m.aT-10,m.call,m.aQ⟩
def gC (s:Server) (m:az):Server×List az:=
 if aJ m.aT 10 11&&decide (1<=m.call)&&fE s m.key then
  match kU s m.key (m.aT-10) m.call with
  |some v=>(s,[nF s m v.ar])
  |none=>if jM (fB s m)&&iO s.an (eV s m)&&decide (s.aE.length<80) then
    (ef {s with an:=fJ s.an (eV s m),aE:=eA s.aE (eV s m).aU},[nF s m (eV s m).ar])
   else(s,[])
 else(s,[])
def fF (s:Server) (slot:Int):Server×az×Bool:=if nD s slot then(j9 s slot,gS (j9 s slot) slot,true) else(s,cn,false)
def Us (q:Call) (key:Int):
 Fn prog 284 [q.av,AV.int key] (AV.int (cv q key)):=by
 refine Fn.go 9 func284 ntmps284 (λW I a U=>?_);refine bD λI a w U=>?_;refine U.o (z5 .tt (by first|exact j6 rfl|exact kg|exact kh|exact kr)) λU=>?_;refine bk λI a w U=>?_;refine U.o (nu (ax .tt aH)) λU=>?_;refine U.o (.cl (KC q.au (vD key) _ (λv _=>Fn.val (SY v key)))) λU=>?_;refine bf ?_;rfl
def LR (x:Answer) (s:cE):
 Fn prog 191 [x.av,s.av] (AV.bool (nE x s)):=by
 refine Fn.go 15 func191 ntmps191 (λW I a U=>?_);refine Cx λI a w U=>?_;refine U.q .F (.cl (K4 ..)) λU=>?_;refine c8 ?_;rfl
def A6 (u v:aA):jY u v=(qI u v&&cI u.aQ.length (AD u v)):=by
 rw[Bool.eq_iff_iff,Bool.and_eq_true,gF];obtain⟨a1,⟨a2,a3⟩,a4,a5,a6,a7⟩:=u;obtain⟨b1,⟨b2,b3⟩,b4,b5,b6,b7⟩:=v;simp only[jY,qI,AD,decide_eq_true_eq];constructor
 .intro h;simp at h;obtain⟨rfl,⟨rfl,rfl⟩,rfl,rfl,rfl,rfl⟩:=h;simp
 rintro⟨h1,h2⟩;simp at h1 h2;have:a7=b7:=KD om h2;simp[this];omega
def LS (u v:aA):
 Fn prog 62 [u.av,v.av] (AV.bool (jY u v)):=by
 refine Fn.go 65 func62 ntmps62 (λW I a U=>?_);have lens:u.aQ.length<=9223372036854775807/\v.aQ.length<=9223372036854775807:=by
  obtain⟨cs,_,hc⟩:=U.env 0 _ rfl;obtain⟨u1,_,h1,_⟩:=hc.get (i:=6) rfl;obtain⟨Ru,_,js⟩:=U.env 1 _ rfl;obtain⟨u2,_,h2,_⟩:=js.get (i:=6) rfl;exact⟨xW h1,xW h2⟩
 refine wM λI a w U=>?_;refine U.q .F (tz [_,_] [_,_] nz rfl rfl .ag .ag) λU=>?_;refine JO λI a w U=>?_;refine U.cd (λae=>?_) λae=>?_
 .replace ae:qI u v=false:=by unfold qI;rw[ae];rfl
  refine bf ?_;exact bB (by rw[A6,ae];rfl)
 replace ae:qI u v=true:=by unfold qI;rw[ae];rfl
 refine aX λI a w U=>?_;refine St.lo (σ:=Nat) (run 3 4 (run 13 52 [])) ⟨λk=>[(52,AV.int k)],λk=>[],λk=>k<=u.aQ.length/\∀i,i<k->(AD u v) i=true⟩ (λk=>u.aQ.length-k) 0 U ?aI ?bF;case aI=>exact⟨Nat.zero_le _,λi hi=>by omega⟩
 rintro k I a w ao U;obtain⟨mU,aM⟩:=ao;refine aB λI a w U=>?_;refine cz (λah=>?_) λah=>?_
 .refine bk λI a w U=>?_;refine U.alloc rfl cW gX λb6 I a w U=>?_;refine aF λI a w U=>?_;obtain⟨I,U⟩:=U.fb 0 6;refine U.dk ?_;refine eb ?_;refine .o ((by first|exact ff dX cW .tt .tt (λ_=>by have:=AF ae;omega)|exact iT dX cW .tt .tt (λ_=>by have:=AF ae;omega)|exact je dX cW .tt .tt (λ_=>by have:=AF ae;omega))) ?_;refine bG ?_;refine .o (tz [_,_,_] [_,_,_] wQ rfl rfl .tt .tt)<|.nil ?_;intro I a w U;refine bm ?_;refine U.cd (λaq=>?_) λaq=>?_
  .rw[AE] at aq;replace aq:=nt aq;refine bf ?_;exact bB (by rw[A6,eI (f:=AD u v) ah aq];simp)
  rw[AE] at aq;replace aq:=nf aq;refine aF λI a w U=>?_;have U:=U.drop 0;exact U.ag (k+1) (⟨by omega,eY aM aq⟩)
 refine zt ?_;refine bf ?_;exact bB (by rw[A6,ae,eX aM om];rfl)
def aff (x:Answer) (l:List aw):
 Fn prog 188 [x.av,AV.ptr [bE l]] (AV.bool (!dw (bI l x.key)&&nE x (bI l x.key))):=by
 refine Fn.go 17 func188 ntmps188 (λW I a U=>?_);refine bY λI a w U=>?_;refine U.o (.cl (R8 ..)) λU=>?_;refine U.alloc rfl mQ kv λb4 I a w U=>?_;refine aB λI a w U=>?_;obtain⟨I,U⟩:=U.fb 0 4;refine U.o .la λU=>?_;refine U.o (.c1 (xh ..)) λU=>?_;refine bx λI a w U=>?_;refine U.q .T (.cl (LR ..)) λU=>?_;refine c8 ?_;rfl
def DA (s:Server) (h:um s):
 dp prog 136 [s.av] [] (λ_=>True) s.S1 s.av5:=by
 refine dp.intro 23 func136 rfl ntmps136 rfl aO (λW I a U=>?_);obtain⟨h1,⟨h2,h3⟩,⟨h4,h5⟩,h6,h7⟩:=h;refine bD λI a w U=>?_;refine U.alloc rfl cA dS λb2 I a w U=>?_;refine zt ?_;have U:=U.jj;have U:=U.jj;have U:=U.jj;have U:=U.jj;have U:=U.jj;have U:=U.ik (sz:=2) 97;refine U.Cu 20 _ (rp 6 (([6],some (6,[9]))::rp 2 (([1],some (1,[12]))::rp 2 (([2],some (2,[15]))::rp 2 (([3],some (3,[18]))::rp 2 [([4],some (4,[21])),([5],some (5,[22,9,12,15,18,21]))]))))) rfl aO aO rfl ?_;simp only[TD];refine iA ?_;refine bc.Jk 6 rfl rfl gQ fh rfl .c .r ig ?_;refine cG ?_;refine bc.pG 1 rfl rfl (xd s.an h2 h3) (ax .r aH) ?_;refine cG ?_;refine bc.pG 2 rfl rfl (xd s.waits h4 h5) (ax .r aH) ?_;refine cG ?_;refine bc.pG 3 rfl rfl (Gl s.aE h6) (ax .r aH) ?_;refine cG ?_;refine bc.pG 4 rfl rfl (Gl s.ba h7) (ax .r aH) ?_;refine bc.JS 5 [9,12,15,18,21] (λa=>AV.agg [AV.int s.site,AV.bool s.up,AV.val (a.tmps.getD 9 undef),AV.val (a.tmps.getD 12 undef),AV.val (a.tmps.getD 15 undef),AV.val (a.tmps.getD 18 undef),AV.val (a.tmps.getD 21 undef)]) rfl rfl rfl rfl (λa b h=>by simp only[List.forall_mem_cons] at h;simp only[h]) rfl (λF a I he=>Ok.to (.bd dS (.k (.k (aZ.c abm rfl .tt (yj (t:=9) he) (aZ.c abo rfl .tt (yj (t:=12) he) (aZ.c abq rfl .tt (yj (t:=15) he) (aZ.c abt rfl .tt (yj (t:=18) he) (aZ.c abv rfl .tt (yj (t:=21) he) aZ.nil))))))))) ?_;refine .nil ?_;intro I a w U;change St _ _ [Own.box b2 95 [AV.val (.int .i64 0),AV.val (.bool false),AV.rows 2 [],AV.rows 7 [],AV.rows 7 [],AV.rows 3 [],AV.rows 3 []],Own.row (a.tmps.getD 12 undef) 54 7 (s.an.map aA.cells),Own.row (a.tmps.getD 15 undef) 54 7 (s.waits.map aA.cells),Own.row (a.tmps.getD 18 undef) 125 3 (s.aE.map aw.cells),Own.row (a.tmps.getD 21 undef) 125 3 (s.ba.map aw.cells),Own.is (AV.agg [AV.int s.site,AV.bool s.up,AV.val (a.tmps.getD 9 undef),AV.val (a.tmps.getD 12 undef),AV.val (a.tmps.getD 15 undef),AV.val (a.tmps.getD 18 undef),AV.val (a.tmps.getD 21 undef)]) (a.tmps.getD 22 undef),Own.row (a.tmps.getD 9 undef) 97 2 (s.aD.map de.cells)] _ _ _ at U;have U:=U.JU (d:=22) 5 rfl;generalize a.tmps.getD 9 undef=v9 at U;generalize a.tmps.getD 12 undef=v12 at U;generalize a.tmps.getD 15 undef=v15 at U;generalize a.tmps.getD 18 undef=Ut at U;generalize a.tmps.getD 21 undef=Uu at U;show wpList _ _ _ _ _ _;refine aB λI a w U=>?_;exact U.dx (v9,v12,v15,Ut,Uu) [6,1,2,3,4] rfl (.cons (.s 0 cA rfl rfl (by first|rfl|assumption)) .nil) trivial rfl rfl
def vL (s:Server) (h:um s):Fn prog 136 [s.av] s.av:=(DA s h).frozen λr c I a w _ U=>by
 obtain⟨I,U⟩:=U.fa 0 0 2;obtain⟨I,U⟩:=U.fa 1 0 3;obtain⟨I,U⟩:=U.fa 2 0 4;obtain⟨I,U⟩:=U.fa 3 0 5;obtain⟨I,U⟩:=U.fa 4 0 6;exact⟨_,_,_,U⟩
def afi (n:Int) (l:List cE) (hn:cM n=true) (hl:∀s∈l,dB s=true):
 Fn prog 335 [AV.int n,AV.rows 2 (l.map cE.cells)] (AV.dG [(og n l).av,AV.bool (jM l)]):=by
 refine Fn.go 44 func335 ntmps335 (λW I a U=>?_);have hle:=U.eE (t:=1) rfl;refine sr<|U.alloc rfl mQ kv λb4 I a w U=>?_;refine aG λI a w U=>?_;refine U.o (.c1 (tQ ..)) λU=>?_;refine aB λI a w U=>?_;refine U.cd (λae=>?_) λae=>?_
 .exfalso;rw[hn] at ae;cases ae;skip
 refine aF λI a w U=>?_;refine St.lo (σ:=Nat) (run 3 5 (run 25 12 [])) ⟨λk=>[(7,AV.int k),(6,AV.int (jz (l.take k)))],λk=>[Own.box b4 42 [AV.val (.int .i64 0),AV.val (.int .i64 0)]],λk=>k<=l.length⟩ (λk=>l.length-k) 0 U ?aI ?bF;case aI=>exact Nat.zero_le _
 rintro k I a w ao U;have hk:k<=l.length:=ao;refine aX λI a w U=>?_;refine cz (λah=>?_) λah=>?_
 .refine bx λI a w U=>?_;refine U.o (.c1 (yl ..)) λU=>?_;refine aB λI a w U=>?_;refine U.cd (λaq=>?_) λaq=>?_
  .exfalso;simp only[B] at aq;rw[hl _ (bh ah)] at aq;cases aq;skip
  refine jW λI a w U=>?_;refine cz (λaK=>?_) λaK=>?_
  .refine oE λI a w U=>?_;refine U.again (k+1) ?hO ?hP dR ?hZ (by repeat(first|exact Env.le_rfl|refine Env.iy rfl ?_));case hO=>omega
   case hP=>exact ah
   case hZ=>exact(Env.dA rfl dR (Env.dA rfl (by first|exact congrArg AV.int (by rw[Dd ah,if_pos aK])|exact congrArg AV.int (by rw[Dd ah,if_neg om])) Env.le_nil))
  refine aR λI a w U=>?_;refine U.again (k+1) ?mV ?mW dR ?mX (by repeat(first|exact Env.le_rfl|refine Env.iy rfl ?_));case mV=>omega
  case mW=>exact ah
  case mX=>exact(Env.dA rfl dR (Env.dA rfl (by first|exact congrArg AV.int (by rw[Dd ah,if_pos aK])|exact congrArg AV.int (by rw[Dd ah,if_neg om])) Env.le_nil))
 refine zt ?_;refine aF λI a w U=>?_;refine cz (λaS=>?_) λaS=>?_
 .refine zt ?_;refine U.o (.bd kv aZ.nil) λU=>?_;refine aF λI a w U=>?_;rw[List.take_of_length_le om] at aS;refine U.ret rfl (.cons (.sx 0) (.cons (.t rfl) aV.nil)) ?_;have e:jM l=false:=by unfold jM;simp;omega
  exact(by unfold og;rw[e];rfl)
 refine bD λI a w U=>?_;refine U.o (lW .tt .c (λ_=>by have:=GH hl k;omega)) λU=>?_;refine U.m λU=>?_;refine U.o (.bd kv (.k (.k aZ.nil))) λU=>?_;refine aF λI a w U=>?_;rw[List.take_of_length_le om] at aS;refine U.ret rfl (.cons (.sx 0) (.cons (.t rfl) aV.nil)) ?_;have e:jM l=true:=by unfold jM;simp;omega
 exact(by unfold og;rw[e,List.take_of_length_le om];rfl)
def fK.Uv {s:Server} (h:fK s) {d:aw} (hl:s.ba.length<80):fK {s with ba:=eA s.ba d}:=⟨h.aD,h.an,h.waits,h.apart,by have:=LQ s.ba d;show(eA s.ba d).length<=80;omega⟩
def xp {l:List aw} {d x:aw}:x∈eA l d↔x=d\/x∈l:=by
 unfold eA;split
 .rename_i h;exact⟨.inr,λh'=>h'.elim (λe=>e▸oY.1 h) id⟩
 exact Gg
def afj {site:Int} {l:List cE} (hn:cM site=true) (hl:∀s∈l,dB s=true) (ho:jM l=true):dB (og site l)=true/\(og site l).site=site/\∀s∈l,s.time<(og site l).time:=by
 have hr:=GH hl l.length;rw[List.take_length] at hr;have hm:jz l<9999:=by simpa[jM] using ho
 have hle:∀(l:List cE) (t:Int),t<=l.foldl (λt s=>if t<s.time then s.time else t) t/\∀s∈l,s.time<=l.foldl (λt s=>if t<s.time then s.time else t) t:=by
  intro l;induction l with
  |nil=>intro t;simp
  |cons a r ih=>
   intro t
   rw[List.foldl_cons]
   have h1:=ih (if t<a.time then a.time else t)
   have h2:t<=(if t<a.time then a.time else t)/\a.time<=(if t<a.time then a.time else t):=by split<;>omega
   refine⟨by omega,λs U=>?_⟩
   rcases List.mem_cons.1 U with rfl|U
   .omega
   exact h1.2 s U
 unfold og;rw[ho,if_pos rfl];refine⟨by simp[dB,aJ,hn];omega,rfl,λs U=>?_⟩;have:=(hle l 0).2 s U;show s.time<jz l+1;unfold jz;omega
def Uw {s:Server} {m:az} (h:bJ s):bJ (jw s m):=by
 unfold jw;split
 .exact⟨h.site,h.aD,h.an,h.waits,Df h.aE (Ax _ _),h.ba,h.up,h.aN,h.here,h.oK,h.oL,h.apart,λd hd=>h.lN d (yx hd)⟩
 exact h
def Ux {s:Server} {m:az} (h:bJ s) (hm:bK m=true) {st:cE} (U:dB st=true):bK (nF s m st)=true:=by
 have p:=ma hm;exact vC ⟨by simp[nF],by simp[nF]⟩ (qK h.site) p.2.1 p.2.2.2.1 p.2.2.2.2.1 (C3 U) ⟨by simp[nF,cn],by simp[nF,cn]⟩ ud ⟨by simp[nF,cn],by simp[nF,cn]⟩ ⟨by simp[nF,cn],by simp[nF,cn]⟩ qL qL yC
def Uy {s:Server} {m:az} (h:bJ s) (hm:bK m=true) {o:Option aA} (ho:∀v,o=some v->dN v=true):bK (lS s m o)=true:=by
 have p:=ma hm;exact vC ⟨by simp[lS],by simp[lS]⟩ (qK h.site) p.2.1 p.2.2.2.1 p.2.2.2.2.1 p.2.2.2.2.2.1 ⟨by simp[lS,cn],by simp[lS,cn]⟩ ud ⟨by simp[lS,cn],by simp[lS,cn]⟩ ⟨by simp[lS,cn],by simp[lS,cn]⟩ (Sy ho) qL yC
def Uz {s:Server} {m:az} (h:bJ s) (hm:bK m=true) {v:aA} (hv:dN v=true):bK (mF s m v)=true:=by
 have p:=ma hm;have q:=iW hv;exact vC ⟨by simp[mF],by simp[mF]⟩ (qK h.site) p.2.1 ⟨by simp[mF,cn],by simp[mF,cn]⟩ q.1 (C3 q.2.1) ⟨by simp[mF,cn],by simp[mF,cn]⟩ ud ⟨by simp[mF,cn],by simp[mF,cn]⟩ ⟨by simp[mF,cn],by simp[mF,cn]⟩ qL qL yC
def UA {s:Server} {m:az} (h:bJ s) (hm:bK m=true):bK (nG s m)=true:=by
 have p:=ma hm;exact vC ⟨by simp[nG],by simp[nG]⟩ (qK h.site) p.2.1 ⟨by simp[nG,cn],by simp[nG,cn]⟩ KE C4 ⟨by simp[nG,cn],by simp[nG,cn]⟩ ud p.2.2.2.2.2.2.2.2.1 p.2.2.2.2.2.2.2.2.2.1 qL qL yC
def GI {s:Server} (h:bJ s) {slot:Int} (h0:0<=slot) (h2:slot<=2):bK (gS s slot)=true:=by
 have hr:=ac5 h (i:=slot.toNat) om;exact vC ⟨by simp[gS],by simp[gS]⟩ (qK h.site) (qK (Sx h.site)) ⟨by simp[gS,cn],by simp[gS,cn]⟩ KE C4 ⟨by simp[gS,cn],by simp[gS,cn]⟩ ud ⟨h0,h2⟩ hr (yu h.an List.filter_sublist) (yu h.waits List.filter_sublist) (Df h.aE List.filter_sublist)
def afk (s:Server) (m:az):(gC s m).1.site=s.site:=by
 unfold gC;split
 .split
  .rfl
  split
  .exact AQ _
  rfl
 rfl
def afl (n:Int) (l:List cE) (hn:cM n=true) (hl:∀s∈l,dB s=true):
 Fn prog 358 [AV.int n,AV.rows 2 (l.map cE.cells)] (AV.dG [(og n l).av,AV.bool (jM l)]):=by
 refine Fn.go 36 func358 ntmps358 (λW I a U=>?_);have hle:=U.eE (t:=1) rfl;refine sr<|U.alloc rfl mQ kv λb4 I a w U=>?_;refine cF λI a w U=>?_;refine St.lo (σ:=Nat) (run 2 5 (8::(run 13 11 []))) ⟨λk=>[(11,AV.int k),(6,AV.int (jz (l.take k)))],λk=>[Own.box b4 42 [AV.val (.int .i64 0),AV.val (.int .i64 0)]],λk=>k<=l.length⟩ (λk=>l.length-k) 0 U ?aI ?bF;case aI=>exact Nat.zero_le _
 rintro k I a w ao U;have hk:k<=l.length:=ao;refine aB λI a w U=>?_;refine cz (λae=>?_) λae=>?_
 .refine aG λI a w U=>?_;refine U.alloc rfl mQ kv λb8 I a w U=>?_;refine aB λI a w U=>?_;obtain⟨I,U⟩:=U.fb 1 8;refine U.o .la λU=>?_;refine U.o (.c1 (AT ..)) λU=>?_;refine aB λI a w U=>?_;refine U.cd (λah=>?_) λah=>?_
  .exfalso;simp only[B] at ah;rw[hl _ (bh ae)] at ah;cases ah;skip
  refine bk λI a w U=>?_;refine U.o (aby .tt .tt) λU=>?_;refine aR λI a w U=>?_;have U:=U.drop 1;refine U.again (k+1) ?hO ?hP dR ?hZ (by repeat(first|exact Env.le_rfl|refine Env.iy rfl ?_));case hO=>omega
  case hP=>exact ae
  case hZ=>exact(Env.dA rfl dR (Env.dA rfl (by exact congrArg AV.int (Dd ae).symm) Env.le_nil))
 refine zt ?_;refine U.m λU=>U.o (.c1 (vE ..)) λU=>?_;refine cF λI a w U=>?_;refine cz (λaq=>?_) λaq=>?_
 .refine zt ?_;refine U.o (.bd kv aZ.nil) λU=>?_;refine aF λI a w U=>?_;rw[List.take_of_length_le om] at aq;refine U.ret rfl (.cons (.sx 0) (.cons (.t rfl) aV.nil)) ?_;have e:jM l=false:=by rcases aq with h|h;(rw[hn] at h;cases h);unfold jM;simp;omega
  exact(by unfold og;rw[e];rfl)
 refine bD λI a w U=>?_;refine U.o (lW .tt .c (λ_=>by have:=GH hl k;omega)) λU=>?_;refine U.m λU=>?_;refine U.o (.bd kv (.k (.k aZ.nil))) λU=>?_;refine aF λI a w U=>?_;rw[List.take_of_length_le om] at aq;refine U.ret rfl (.cons (.sx 0) (.cons (.t rfl) aV.nil)) ?_;have e:jM l=true:=by have:=GH hl l.length;rw[List.take_length] at this;unfold jM;simp;omega
 exact(by unfold og;rw[e,List.take_of_length_le om];rfl)
def UB (s:Server) (m:az):(!jM (fB s m)||!iO s.an (eV s m)||decide (80<=(s.aE.length:Int)))=!(jM (fB s m)&&iO s.an (eV s m)&&decide (s.aE.length<80)):=by
 have e:decide (80<=(s.aE.length:Int))=!decide (s.aE.length<80):=by rw[Bool.eq_iff_iff];simp;omega
 rw[e];simp
def UC:∀(ds l:List aw),(ds.foldl eA l).length<=l.length+ds.length
 |[],l=>by simp
 |d::r,l=>by have h1:=UC r (eA l d);have h2:=LQ l d;simp only[List.foldl_cons,List.length_cons];omega
def UD (l ds:List aw) (k:Nat):((ds.take k).foldl eA l).length<=l.length+k:=by
 have h1:=UC (ds.take k) l;have h2:(ds.take k).length<=k:=by simp;omega
 omega
def UE (s:Server) (slot:Int) (h:um s):
 dp prog 352 [s.av,AV.int slot] [] (λ_:Value=>True) (λv=>[Own.row v 97 2 (s.aD.map de.cells)]) (eh s slot).AH:=by
 refine dp.intro 33 func352 rfl ntmps352 rfl aO (λW I a U=>?_);obtain⟨h1,⟨h2,h3⟩,⟨h4,h5⟩,h6,h7⟩:=id h;refine bD λI a w U=>?_;refine U.alloc rfl cA dS λb4 I a w U=>?_;refine bD λI a w U=>?_;refine U.cY [] (DA s h) (ax .tt aH) rfl aP rfl λ⟨vS,vV,vW,vO,vK⟩ I a w ark U=>?_;refine U.alloc rfl cA dS λb5 I a w U=>?_;refine bx λI a w U=>?_;refine U.o (.cl (Gh s.an slot h2 h3)) λU=>?_;refine bx λI a w U=>?_;refine U.s1 6 λU=>?_;refine bk λI a w U=>?_;refine U.o (.cl (Gh s.waits slot h4 h5)) λU=>?_;refine bx λI a w U=>?_;refine U.s1 6 λU=>?_;refine bk λI a w U=>?_;refine U.o (.cl (S7 s.aE slot h6)) λU=>?_;refine bx λI a w U=>?_;refine U.s1 6 λU=>?_;refine nn<|wp_seq ?_;obtain⟨I,U⟩:=U.fu 5 6 6;refine aF λI a w U=>?_;refine U.dx vS [1] rfl (.cons (.sx 0) .nil) trivial rfl rfl
def UF (s:Server) (slot:Int) (h:um s) (h0:cM s.site=true) (hl:s.aD.length=3) (ka:0<=slot/\slot<3):
 Fn prog 290 [s.av,AV.int slot] ((gS s slot).av):=by
 refine Fn.go 44 func290 ntmps290 (λW I a U=>?_);obtain⟨h1,⟨h2,h3⟩,⟨h4,h5⟩,h6,h7⟩:=h;refine bD λI a w U=>?_;refine U.alloc rfl dV eU λb4 I a w U=>?_;refine zt ?_;refine U.da 14 ?_;simp only[TD];refine eb ?_;refine .o (.c1 (KF _ h0)) ?_;refine mA ?_;refine .o (.bd eU (.k (.k (.k (.k (.k aZ.nil)))))) ?_;refine gW.alloc dV eU<|.nil ?_;intro I a w U;obtain⟨b5,U⟩:=U.u6 (d:=5) rfl;refine bx λI a w U=>?_;refine U.o (.cl (Gh s.an slot h2 h3)) λU=>?_;refine mz λI a w U=>?_;refine U.o (.cl (Gh s.waits slot h4 h5)) λU=>?_;refine mz λI a w U=>?_;refine U.o (.cl (S7 s.aE slot h6)) λU=>?_;refine jW λI a w U=>?_;refine U.ret rfl (.cons (.sx 0) aV.nil) ?_;rfl
def afm {l ds:List aw} {k:Nat} (hn:l.length+ds.length<=80) (hk:k<ds.length):Fn prog 336 [bE ((ds.take k).foldl eA l),(ab ds k).av] (bE ((ds.take (k+1)).foldl eA l)):=by
 have h2:=UD l ds k;have:=Le ((ds.take k).foldl eA l) (ab ds k) om;rwa[<-TK hk] at this
def afn (s:Server) (m:az):(gC s m).2.length<=1:=by
 unfold gC;split
 .split
  .simp
  split<;>simp
 simp
def pW (s:Server) (k:Nat):List az:=(vG s k).map λi:Nat=>gS s (i:Int)
def UG {s:Server} {k:Nat} (h:(ab s.aD k).cm=2):pW s k++[gS s (k:Int)]=pW s (k+1):=by
 unfold pW;rw[aed h,List.map_append];rfl
def UH {s:Server} {k:Nat} (h:¬(ab s.aD k).cm=2):pW s k=pW s (k+1):=by
 unfold pW;rw[aee h]
def LU (s:Server) (k:Nat):(pW s k).length<=k:=by unfold pW;rw[List.length_map];exact aef s k
def afo (site:Nat) (h4:site<4):
 Fn prog 153 [AV.int (site:Int)] ((yB site).av):=by
 refine Fn.go 33 func153 ntmps153 (λW I a U=>?_);have Cp:cM (site:Int)=true:=jy.2 om;refine sr<|U.alloc rfl cA dS λb2 I a w U=>?_;refine bD λI a w U=>?_;refine U.o (.c1 (vE ..)) λU=>?_;refine aB λI a w U=>?_;refine U.cd (λae=>?_) λae=>?_
 .exfalso;rw[Cp] at ae;cases ae;skip
 refine bD λI a w U=>?_;refine U.o (.bd Fx (.k (.k aZ.nil))) λU=>?_;refine U.alloc rfl cA Fx λb3 I a w U=>?_;refine aB λI a w U=>?_;have U:=U.ik (sz:=2) 97;refine aB λI a w U=>?_;refine St.lo (σ:=Nat×Value) (4::(run 21 11 [])) ⟨λ⟨k,v⟩=>[(11,AV.int k)],λ⟨k,v⟩=>[Own.box b2 95 [AV.val (.int .i64 0),AV.val (.bool false),AV.rows 2 [],AV.rows 7 [],AV.rows 7 [],AV.rows 3 [],AV.rows 3 []],Own.box b3 95 [AV.int (site:Int),AV.bool true,AV.val v,AV.val (.slice none 0 0),AV.val (.slice none 0 0),AV.val (.slice none 0 0),AV.val (.slice none 0 0)],Own.row v 97 2 ((uq site k).map de.cells)],λ⟨k,v⟩=>k<=3⟩ (λ⟨k,v⟩=>3-k) (0,.slice none 0 0) U ?aI ?bF;case aI=>exact Nat.zero_le _
 rintro⟨k,v⟩ I a w ao U;have hk:k<=3:=ao;dsimp only at U;refine aB λI a w U=>?_;refine cz (λah=>?_) λah=>?_
 .refine bk λI a w U=>?_;refine U.o (uW .tt .c (λ_=>by omega)) λU=>?_;refine U.m λU=>?_;refine U.o (uW .tt .c (λ_=>by omega)) λU=>?_;refine aB λI a w U=>?_;refine cz (λaq=>?_) λaq=>?_
  .refine aG λI a w U=>?_;refine U.o (.bd oF (.k (.k aZ.nil))) λU=>?_;refine U.o (.li [de.cells ⟨1,1⟩] Fz (.u .nil)) λU=>?_;refine U.append 2 rfl gQ fh rfl .tt .r rfl (by rw[List.length_map,Gr];simp;omega) λGw a w U=>?_;refine U.o .fv λU=>?_;try have arl:=U.fI 2 rfl
   refine aR λI a w U=>?_;rw[cJ,TO (by simpa using aq)] at U;exact U.ag (k+1,Gw) (by show k+1<=3;omega)
  refine aG λI a w U=>?_;refine U.o (.bd oF aZ.nil) λU=>?_;refine U.o (.li [de.cells ⟨0,0⟩] Fz (.u .nil)) λU=>?_;refine U.append 2 rfl gQ fh rfl .tt .r rfl (by rw[List.length_map,Gr];simp;omega) λAw a w U=>?_;refine U.o .fv λU=>?_;try have afp:=U.fI 2 rfl
  refine aR λI a w U=>?_;rw[cJ,TP (by simpa using aq)] at U;exact U.ag (k+1,Aw) (by show k+1<=3;omega)
 refine wp_exit<|cB<|cB<|fo<|bm<|wp_seq ?_;obtain⟨I,U⟩:=U.fu 2 2 1;have U:=U.nY (q:=3) 1 rfl rfl (fN 7 _);have U:=U.nY (q:=4) 1 rfl rfl (fN 7 _);have U:=U.nY (q:=5) 1 rfl rfl (fN 3 _);have U:=U.nY (q:=6) 1 rfl rfl (fN 3 _);refine aF λI a w U=>?_;refine U.ret rfl (.cons (.sx 0) aV.nil) ?_;have kY:k=3:=by omega
 subst kY;rfl
def qU (q:Call) (k:Nat):List az:=(((q.keys.take k).filter λk=>decide (cv q k<0)).map λkey=>jq q (yM key)).flatten
def uu (q:Call) (k:Nat):List az:=qU q q.keys.length++((q.aL.take k).map λd=>jq q (yN d)).flatten
def UI {q:Call} {k:Nat} (h:k<q.keys.length) (hg:cv q (ab q.keys k)<0):qU q k++jq q (yM (ab q.keys k))=qU q (k+1):=by
 unfold qU;rw[oI h (by simpa using hg),List.map_append,List.flatten_append];simp
def UJ {q:Call} {k:Nat} (h:k<q.keys.length) (hg:¬cv q (ab q.keys k)<0):qU q k=qU q (k+1):=by
 unfold qU;rw[oJ h (by simpa using hg)]
def afq {q:Call} {k:Nat} (h:k=q.keys.length):qU q k=uu q 0:=by subst h;simp[uu]
def UK {q:Call} {k:Nat} (h:k<q.aL.length):uu q k++jq q (yN (ab q.aL k))=uu q (k+1):=by
 unfold uu;rw[fe h,List.map_append,List.flatten_append,List.append_assoc];simp
def LV (q:Call):∀k,k<=q.keys.length->(qU q k).length<=2*k
 |0,_=>by simp[qU]
 |k+1,h=>by
  have ih:=LV q k om;by_cases hg:cv q (ab q.keys k)<0
  .rw[<-UI om hg,List.length_append];show _+2<=_;omega
  rw[<-UJ om hg];omega
def UL (q:Call):∀k,k<=q.aL.length->(uu q k).length<=2*q.keys.length+2*k
 |0,_=>by have:=LV q q.keys.length (Nat.le_refl _);simp[uu];omega
 |k+1,h=>by
  have ih:=UL q k om;rw[<-UK om,List.length_append];show _+2<=_;omega
def pX (q:Call) (k:Nat):List az:=(((asks q).take k).map (jq q)).flatten
def LW (q:Call):∀k,k<=(asks q).length->(pX q k).length=2*k
 |0,_=>by simp[pX]
 |k+1,h=>by
  have ih:=LW q k om;unfold pX at ih⊢;rw[fe om,List.map_append,List.flatten_append,List.length_append,ih];rfl
def afr {q:Call} {k i:Nat} (h:k<(asks q).length) (hi:2<=i):pX q k++(jq q (ab (asks q) k)).take i=pX q (k+1):=by
 unfold pX;rw[List.take_of_length_le (l:=jq _ _) (by simpa[jq] using hi),fe h,List.map_append,List.flatten_append];simp
def sM (q:Call) (k:Nat):List aw:=((q.au.take k).filter λa=>!dw (bI (fT q) a.key)&&nE a (bI (fT q) a.key)).map λa=>⟨a.key,bI (fT q) a.key⟩
def afs {q:Call} {k:Nat} (h:k<q.au.length) (hp:(!dw (bI (fT q) (ab q.au k).key)&&nE (ab q.au k) (bI (fT q) (ab q.au k).key))=true):sM q k++[⟨(ab q.au k).key,bI (fT q) (ab q.au k).key⟩]=sM q (k+1):=by
 unfold sM;rw[oI h (by simpa using hp),List.map_append];rfl
def aft {q:Call} {k:Nat} (h:k<q.au.length) (hp:(!dw (bI (fT q) (ab q.au k).key)&&nE (ab q.au k) (bI (fT q) (ab q.au k).key))=false):sM q k=sM q (k+1):=by
 unfold sM;rw[oJ h (by simpa using hp)]
def afu (q:Call) (k:Nat):(sM q k).length<=q.au.length:=by
 unfold sM;rw[List.length_map];exact Nat.le_trans (List.length_filter_le ..) (by rw[List.length_take];omega)
def afv {a:Answer} (h:dL a=true):bQ a.aY.ar gm=false:=by
 cases hy:a.yes
 .rw[xb h hy];rfl
 have:=(AO h hy).1;simp only[l9,Bool.and_eq_true] at this;have U:=this.2;simp[dB,aJ,aA.aU] at U;rw[Bool.eq_false_iff];intro e;simp[bQ,gm] at e;have h1:=of_decide_eq_true U.1.1;rcases e with e|⟨e,_⟩
 .have:=of_decide_eq_true e;omega
 omega
def GJ {s:Server} {slot:Int} (h:(fF s slot).2.2=true):nD s slot=true:=by unfold fF at h;split at h;assumption;cases h
def LX {s:Server} {slot:Int} (h:(fF s slot).2.2=false):nD s slot=false:=by unfold fF at h;split at h;cases h;rename_i hh;simpa using hh
def LY {s:Server} {slot:Int} (h:nD s slot=true):fF s slot=(j9 s slot,gS (j9 s slot) slot,true):=by unfold fF;rw[if_pos h]
def afw {s:Server} {slot:Int} (h:nD s slot=false):fF s slot=(s,cn,false):=by unfold fF;rw[h];rfl
def LZ:∀k,(AK k).length=k
 |0=>rfl
 |k+1=>by show(AK k++[yB k]).length=_;rw[List.length_append,LZ k];rfl
def afx:
 Fn prog 78 [] (dT.av):=by
 refine Fn.go 17 func78 ntmps78 (λW I a U=>?_);refine sr<|U.alloc rfl dP dW λb0 I a w U=>?_;refine zt ?_;refine U.make rfl Cz qz Q5 rfl .c .c (by exact⟨by decide,by decide⟩) λb3 a w U=>?_;obtain⟨I,U⟩:=U.fr 1 3;refine U.o (.bd Ak (.k aZ.nil)) λU=>?_;refine U.alloc rfl dP Ak λb1 I a w U=>?_;refine aB λI a w U=>?_;have U:=U.ik (sz:=7) 95;refine aB λI a w U=>?_;refine St.lo (σ:=Nat×Value) (2::(run 11 5 [])) ⟨λ⟨k,p⟩=>[(5,AV.int k)],λ⟨k,p⟩=>[Own.box b0 28 [AV.val (.int .i64 0),AV.rows 7 [],AV.rows 15 [],AV.rows 13 [],AV.rows 1 []],Own.gone,Own.box b1 28 [AV.int 0,AV.val p,AV.val (.slice none 0 0),AV.val (.slice none 0 0),j8 [[],[]]],Own.row p 95 7 ((AK k).map Server.cells)],λ⟨k,p⟩=>k<=4⟩ (λ⟨k,p⟩=>4-k) (0,.slice none 0 0) U ?aI ?bF;case aI=>exact Nat.zero_le _
 rintro⟨k,p⟩ I a w ao U;have hk:k<=4:=ao;dsimp only at U;refine aB λI a w U=>?_;refine cz (λae=>?_) λae=>?_
 .refine aF λI a w U=>?_;refine U.dt 5 ?_;simp only[TD];refine dO ?_;refine .o (bO (afo k om) (ax (.t rfl) aH)) ?_;refine .o (.li [(yB k).cells] Fy (.u .nil)) ?_;refine .nil ?_;intro I a w U;refine U.append 3 rfl vi cA rfl .tt .r rfl (by rw[List.length_map,LZ];simp;omega) λv13 a w U=>?_;refine U.o .fv λU=>?_;try have arn:=U.fI 3 rfl
  refine aB λI a w U=>?_;rw[cJ] at U;refine aF λI a w U=>?_;exact U.ag (k+1,v13) (by show k+1<=4;omega)
 refine wp_exit<|cB<|cB<|fo<|bm<|wp_seq ?_;have A7:k=4:=by omega
 subst A7;obtain⟨I,U⟩:=U.fu 3 1 2;have U:=U.nY (q:=2) 2 rfl rfl (fN 15 _);have U:=U.nY (q:=3) 2 rfl rfl (fN 13 _);refine aF λI a w U=>?_;refine U.ret rfl (.cons (.sx 0) aV.nil) ?_;rfl
def L0 (l:List Call) (t:Int) (s r z:Value) (aj:Int):
 Fn prog 230 [AV.ptr [AV.int t,AV.val s,AV.val r,iL l,AV.val z],AV.int aj] (AV.int (cq l aj)):=by
 refine Fn.go 11 func230 ntmps230 (λW I a U=>?_);refine zt ?_;refine U.o (z5 .tt (by first|exact j6 rfl|exact kg|exact kh|exact kr)) λU=>?_;refine bY λI a w U=>?_;refine U.o (nu (ax .tt aH)) λU=>?_;refine U.o (.cl (Sn l (sK aj) _ (λq _=>Fn.val (aeq q aj)))) λU=>?_;refine bf ?_;rfl
def gK (br:Nat) (code:List UInt8) (p n:Int) (hp:0<=p/\p<=1099511627775) (hb:code.length<=1099511627776):
 jV prog 54 [AV.val (.pointer (some ⟨br,0,none⟩)),AV.int n] [Own.box br 147 [gn code,AV.int (p)]] [Own.box br 147 [gn code,AV.int (p+1)]] (AV.int (dK code p n)):=by
 refine dp.intro 99 func54 rfl ntmps54 rfl aO (λW I a U=>?_);refine JN λI a w U=>?_;refine U.cd (λae=>?_) λae=>?_
 .refine aB λI a w U=>?_;refine U.dx () [0] rfl (.cons (.t rfl) .nil) trivial rfl ?_;exact congrArg AV.int (adp ae)
 replace ae:=aey ae;refine Fs λI a w U=>?_;refine cz (λah=>?_) λah=>?_
 .refine g9 λI a w U=>?_;refine U.o (Jd aO oG .tt (λ_=>by have y1:=(ab code (p+1-1).toNat).toNat_lt;omega)) λU=>?_;refine U.m λU=>?_;refine U.o (uW .tt .tt (λ_=>by have y1:=(ab code (p+1-1).toNat).toNat_lt;omega)) λU=>?_;refine aB λI a w U=>?_;refine U.dx () [0] rfl (.cons (.t rfl) .nil) trivial rfl<|congrArg AV.int ?_;unfold dK;rw[if_neg ae,if_pos om,Int.add_sub_cancel];rfl
 refine wp_skip<|bm<|wp_seq<|U.dk ?_;refine pK ?_;refine .o (uW .tt .tt (λ_=>by omega)) ?_;refine .o ((by first|exact ff yi yh .tt .tt (λ_=>by have h9:=Int.emod_nonneg (p+1-1) (show(code.length:Int)≠0 by omega);have h8:=Int.emod_lt_of_pos (p+1-1) (show(0:Int)<code.length by omega);omega)|exact iT yi yh .tt .tt (λ_=>by have h9:=Int.emod_nonneg (p+1-1) (show(code.length:Int)≠0 by omega);have h8:=Int.emod_lt_of_pos (p+1-1) (show(0:Int)<code.length by omega);omega)|exact je yi yh .tt .tt (λ_=>by have h9:=Int.emod_nonneg (p+1-1) (show(code.length:Int)≠0 by omega);have h8:=Int.emod_lt_of_pos (p+1-1) (show(0:Int)<code.length by omega);omega))) ?_;refine bG ?_;refine .o (Jd aO oG .tt (λ_=>by have y1:=(ab code ((p+1-1)%(code.length:Int)).toNat).toNat_lt;omega)) ?_;refine .o (mi .tt .c (λ_=>by have y1:=oR code ((p+1-1)%code.length);have y2:=oT code ((p+1-1)%code.length);have y3:=oR code (((p+1-1)*7+3)%code.length);have y4:=oT code (((p+1-1)*7+3)%code.length);have y5:=yF (k:=p+1-1) (m:=code.length) om om;unfold qM at y1 y2 y3 y4;omega)) ?_;refine fZ ?_;refine .o (mi .tt .c (λ_=>by omega)) ?_;refine iA ?_;refine .o (uW .tt .tt (λ_=>by omega)) ?_;refine .o ((by first|exact ff yi yh .tt .tt (λ_=>by have h9:=Int.emod_nonneg ((p+1-1)*7+3) (show(code.length:Int)≠0 by omega);have h8:=Int.emod_lt_of_pos ((p+1-1)*7+3) (show(0:Int)<code.length by omega);omega)|exact iT yi yh .tt .tt (λ_=>by have h9:=Int.emod_nonneg ((p+1-1)*7+3) (show(code.length:Int)≠0 by omega);have h8:=Int.emod_lt_of_pos ((p+1-1)*7+3) (show(0:Int)<code.length by omega);omega)|exact je yi yh .tt .tt (λ_=>by have h9:=Int.emod_nonneg ((p+1-1)*7+3) (show(code.length:Int)≠0 by omega);have h8:=Int.emod_lt_of_pos ((p+1-1)*7+3) (show(0:Int)<code.length by omega);omega))) ?_;refine bG ?_;refine .o (Jd aO oG .tt (λ_=>by have y1:=(ab code (((p+1-1)*7+3)%(code.length:Int)).toNat).toNat_lt;omega)) ?_;refine .o (mi .tt .c (λ_=>by have y1:=oR code ((p+1-1)%code.length);have y2:=oT code ((p+1-1)%code.length);have y3:=oR code (((p+1-1)*7+3)%code.length);have y4:=oT code (((p+1-1)*7+3)%code.length);have y5:=yF (k:=p+1-1) (m:=code.length) om om;unfold qM at y1 y2 y3 y4;omega)) ?_;refine .o (lW .tt .tt (λ_=>by have y1:=oR code ((p+1-1)%code.length);have y2:=oT code ((p+1-1)%code.length);have y3:=oR code (((p+1-1)*7+3)%code.length);have y4:=oT code (((p+1-1)*7+3)%code.length);have y5:=yF (k:=p+1-1) (m:=code.length) om om;unfold qM at y1 y2 y3 y4;omega)) ?_;refine bG ?_;refine .o (mi .tt .c (λ_=>by omega)) ?_;refine .o (lW .tt .tt (λ_=>by have y1:=oR code ((p+1-1)%code.length);have y2:=oT code ((p+1-1)%code.length);have y3:=oR code (((p+1-1)*7+3)%code.length);have y4:=oT code (((p+1-1)*7+3)%code.length);have y5:=yF (k:=p+1-1) (m:=code.length) om om;unfold qM at y1 y2 y3 y4;omega)) ?_;refine iA ?_;refine .o (z8 .tt .tt (λ_=>by omega)) ?_;refine .o (mi .tt .c (λ_=>by have y1:=oR code ((p+1-1)%code.length);have y2:=oT code ((p+1-1)%code.length);have y3:=oR code (((p+1-1)*7+3)%code.length);have y4:=oT code (((p+1-1)*7+3)%code.length);have y5:=yF (k:=p+1-1) (m:=code.length) om om;unfold qM at y1 y2 y3 y4;omega)) ?_;refine .o (lW .tt .tt (λ_=>by have y1:=oR code ((p+1-1)%code.length);have y2:=oT code ((p+1-1)%code.length);have y3:=oR code (((p+1-1)*7+3)%code.length);have y4:=oT code (((p+1-1)*7+3)%code.length);have y5:=yF (k:=p+1-1) (m:=code.length) om om;unfold qM at y1 y2 y3 y4;omega)) ?_;refine bG ?_;refine .nil ?_;intro I a w U;have qv:=ado (bs:=code) (k:=p) hp.1 om om;rw[Int.add_sub_cancel] at U;change St _ _ _ ((6,AV.int (yD code p))::_) _ _ at U;generalize hX:yD code p=X at U qv;refine aG λI a w U=>?_;refine U.o (z8 .tt .c (λ_=>by omega)) λU=>?_;refine U.o (QA .tt .tt (λ_=>by omega)) λU=>?_;refine bk λI a w U=>?_;refine U.o (uW .tt .tt (λ_=>by have:=Qy (m:=X) (n:=X/64);have:=Qz (m:=X) (n:=X/64) om om;omega)) λU=>?_;refine aB λI a w U=>?_;refine U.dx () [0] rfl (.cons (.t rfl) .nil) trivial rfl<|congrArg AV.int ?_;unfold dK;rw[if_neg ae,if_neg om,hX]
def be.lt {w:ai} {σ:Nat} {v:aA} (h:be w σ v):σ<2:=by obtain⟨i,hi,e,_⟩:=h;omega
def L1:∀{ds l:List aw} {x:aw},x∈ds.foldl eA l↔x∈l\/x∈ds
 |[],l,x=>by simp
 |d::r,l,x=>by
  rw[List.foldl_cons,L1,xp,List.mem_cons];constructor
  .rintro((h1|h1)|h1)<;>simp[h1]
  rintro(h1|h1|h1)<;>simp[h1]
def afz {s:Server} {slot:Int} (h0:0<=slot) (bj:(ab s.aD slot.toNat).cm=2):yG s (gS s slot):=by
 refine⟨?_,λv=>?_,λv=>?_,λd=>?_⟩
 .show ab s.aD slot.toNat=⟨(ab s.aD slot.toNat).bw,2⟩;rw[<-bj]
 .show v∈s.an.filter (fj slot)↔v∈s.an/\cV v.key=slot;rw[List.mem_filter];simp[fj]
 .show v∈s.waits.filter (fj slot)↔v∈s.waits/\cV v.key=slot;rw[List.mem_filter];simp[fj]
 show d∈s.aE.filter (gY slot)↔d∈s.aE/\cV d.key=slot;rw[List.mem_filter];simp[gY]
def UM {l vs:List aA} (hl:ct l=true) (hv:ct vs=true) (h:l.length+vs.length<=80):ct (jx l vs)=true:=
 vw.2 ⟨Nat.le_trans (w5 vs l) h,λv dU=>(w4 dU).elim (fw hv v) (fw hl v),GG (pU hl)⟩
def afA (x y:List aA):qH jY x y=decide (x=y):=by
 rw[Bool.eq_iff_iff,decide_eq_true_eq];unfold qH;rw[Bool.and_eq_true,decide_eq_true_eq,gF];constructor
 .rintro⟨h1,h2⟩;exact KD h1 λi hi=>by simpa[jY] using h2 i hi
 rintro rfl;exact⟨rfl,λi _=>by simp[jY]⟩
def afB (u v:aA):
 Fn prog 61 [u.av,v.av] (AV.bool (jY u v)):=by
 refine Fn.go 8 func61 ntmps61 (λW I a U=>?_);refine bY λI a w U=>?_;refine U.o (.c2 (LS ..)) λU=>?_;refine bf ?_;rfl
def L3 {l:List aA} {d:aw} (h:∃x∈l,x.aU=d):∃v,eK l d=some v/\v∈l/\v.aU=d:=by
 have hp:=nC.2 h;have e:eK l d=some (ab l (placeOf l d).toNat):=by unfold eK;rw[if_pos hp]
 exact⟨_,e,AJ e⟩
def y7 (w:ai):Prop:=∀i,i<4->(sv w i).aE=[]
end Go.Proofs.YtldbakcpcfdlaaaGreat
