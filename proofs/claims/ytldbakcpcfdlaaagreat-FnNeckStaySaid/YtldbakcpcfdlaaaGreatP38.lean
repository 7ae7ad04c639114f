/- Part 38: contracts of functions, plain facts. -/
import Derived.Test.YtldbakcpcfdlaaaGreatP33
set_option linter.all false
set_option maxRecDepth 100000
set_option maxHeartbeats 4000000
namespace Go.Proofs.YtldbakcpcfdlaaaGreat
open Go Go.RowKit Tryz
attribute [local irreducible] wpList Code.wp Ok
structure tk (f:ai->Nat->ai) (n:Int) (x y:ai) (k:Nat):Prop where
 aN:bX y
 time:y.time<=x.time+n*k
 eq:y=(List.range k).foldl f x
def tk.zero {f:ai->Nat->ai} {n:Int} {x:ai} (h:bX x):tk f n x x 0:=⟨h,by omega,rfl⟩
structure kJ (w x:ai):Prop where
 len:x.calls.length=w.calls.length
 same:∀n,n<w.calls.length->j2 (ab w.calls n) (ab x.calls n)
 ended:∀n,n<w.calls.length->bV (ab w.calls n)=false->ab x.calls n=ab w.calls n
 filled:∀n,n<w.calls.length->nd (ab w.calls n)->nd (ab x.calls n)
def kJ.of {w x:ai} (h:x.calls=w.calls):kJ w x:=by
 refine⟨by rw[h],λn _=>?_,λn _ _=>by rw[h],λn _ hf=>by rw[h];exact hf⟩;rw[h];exact j2.refl _
def kJ.trans {w x y:ai} (h:kJ w x) (h':kJ x y):kJ w y where
 len:=h'.len.trans h.len
 same:=λn hn=>(h.same n hn).trans (h'.same n (by rw[h.len];exact hn))
 ended:=λn hn he=>by
  have e:=h.ended n hn he;rw[<-e];exact h'.ended n (by rw[h.len];exact hn) (by rw[e];exact he)
 filled:=λn hn hf=>h'.filled n (by rw[h.len];exact hn) (h.filled n hn hf)
def mg.trans {w x y:ai} {a b:Nat} (h:mg w x a) (h':mg x y b):mg w y (a+b):=⟨h'.inv,h'.more,λσ v hv=>h'.eC σ v (h.eC σ v hv),by have:=h.time;have:=h'.time;omega⟩
def NQ {x:ai} (ao:cK x=true) {k:Nat} (hk:k<x.calls.length):0<(ab x.calls k).keys.length:=by
 have h:=ze ((Mu ao).2.2.2.2.1 _ (bh hk));have:=h.2.2.1;unfold fU at this;rw[Bool.and_eq_true] at this;have:=this.2;simp[aJ] at this;omega
def XF (l:List aA) (v:aA):
 Fn prog 180 [bU l,v.av] (AV.bool (equalIn l v)):=by
 refine Fn.go 20 func180 ntmps180 (λW I a U=>?_);refine bx λI a w U=>?_;refine U.o (.c1 (nA ..)) λU=>?_;refine U.o (.cl (oH ..)) λU=>?_;refine aB λI a w U=>?_;refine U.dk ?_;refine fZ ?_;refine .q .T ((by first|exact ff di bL .ag .ag (λhg=>by have h0:0<=placeOf l v.aU:=(by simpa using hg);have:=l7 h0;omega)|exact iT di bL .ag .ag (λhg=>by have h0:0<=placeOf l v.aU:=(by simpa using hg);have:=l7 h0;omega)|exact je di bL .ag .ag (λhg=>by have h0:0<=placeOf l v.aU:=(by simpa using hg);have:=l7 h0;omega))) ?_;refine cG ?_;refine .q .T (.cl (LS ..)) ?_;refine cG ?_;refine .nil ?_;intro I a w U;refine zt ?_;refine U.rt ?_;rfl
def XG (u v:de):
 Fn prog 253 [u.av,v.av] (AV.bool (ui u v)):=by
 refine Fn.go 32 func253 ntmps253 (λW I a U=>?_);refine JO λI a w U=>?_;refine U.rt ?_;rfl
def ali (u v:de):
 Fn prog 182 [u.av,v.av] (AV.bool (lB u v)):=by
 refine Fn.go 29 func182 ntmps182 (λW I a U=>?_);refine aR λI a w U=>?_;refine U.o (uO .f) λU=>nn<|sr<|U.o (uO .f) λU=>?_;refine bk λI a w U=>?_;refine U.o (qp (Fn.wE (XG u v)) .tt (ax .tt (ax .tt aH))) λU=>?_;refine bx λI a w U=>?_;refine U.q .F (qp (Fn.wE (XG v u)) .ag (ax .ag (ax .ag aH))) λU=>?_;refine bY λI a w U=>?_;refine U.q .F (qp (Fn.wE (WE u v)) .ag (ax .ag (ax .ag aH))) λU=>?_;refine bY λI a w U=>?_;refine U.q .F (qp (Fn.wE (WE v u)) .ag (ax .ag (ax .ag aH))) λU=>?_;refine c8 ?_;rfl
def alj (v:aA) (l:List aA):
 Fn prog 185 [v.av,AV.ptr [bU l]] (AV.bool (Gd l v)):=by
 refine Fn.go 8 func185 ntmps185 (λW I a U=>?_);refine bx λI a w U=>?_;refine U.o (.cl (XF ..)) λU=>?_;refine c8 ?_;rfl
def tl (own:List aA) (k:Nat) (p:ve):Bool:=!cI k λj=>!Bw p (ab own j)
def alk (own:List aA):tl own 0=λ_=>false:=by
 funext p;simp[tl,cI]
def wg (v:aA) (h:gV v.aj/\gV v.call):ve:=⟨(v.aj,v.call),h⟩
def alm {own:List aA} {k:Nat} (h:gV (ab own k).aj/\gV (ab own k).call):(λy=>if y=wg (ab own k) h then true else tl own k y)=tl own (k+1):=by
 funext y;unfold tl;rw[aeK];by_cases hy:y=wg (ab own k) h
 .rw[if_pos hy,hy];have:Bw (wg (ab own k) h) (ab own k)=true:=by simp[Bw,wg]
  rw[this];simp
 rw[if_neg hy];have:Bw y (ab own k)=false:=by
  cases hh:Bw y (ab own k)
  .rfl
  exfalso;apply hy;simp only[Bw,Bool.and_eq_true,beq_iff_eq] at hh;obtain⟨⟨u,v⟩,hu⟩:=y;simp only[wg];apply Subtype.ext;exact Prod.ext hh.1.symm hh.2.symm
 rw[this];simp
def aln {own:List aA} {k:Nat} (h:gV (ab own k).aj/\gV (ab own k).call):tl own k (wg (ab own k) h)=!cI k λj=>!C2 (ab own j) (ab own k):=rfl
def En {v:aA} (h:dN v=true):gV v.aj/\gV v.call:=by
 simp only[dN,Bool.and_eq_true] at h;have h1:=h.1.1.1.2;have h2:=h.1.1.2;simp[eF,aJ] at h1 h2;exact⟨⟨by omega,by omega⟩,⟨by omega,by omega⟩⟩
def XH {own:List aA} {k:Nat} (h:gV (ab own k).aj/\gV (ab own k).call):(tl own k (wg (ab own k) h)||!tU own (ab own k).aQ)=!w8 own k:=by
 rw[aln];unfold w8;simp
def alo {own other:List aA} {s:Int} {k:Nat} (h:w8 own k=false):qV own other s k=false:=by
 have:qV own other s k=(w8 own k&&(if 0<=placeOf other (ab own k).aU then equalIn other (ab own k) else bM (ab own k).ar.site==s)):=rfl;rw[this,h];rfl
def XI {own other:List aA} {s:Int} {k:Nat} (h:w8 own k=true) (hp:0<=placeOf other (ab own k).aU):qV own other s k=equalIn other (ab own k):=by
 have:qV own other s k=(w8 own k&&(if 0<=placeOf other (ab own k).aU then equalIn other (ab own k) else bM (ab own k).ar.site==s)):=rfl;rw[this,h,if_pos hp];rfl
def XJ {own other:List aA} {s:Int} {k:Nat} (h:w8 own k=true) (hp:placeOf other (ab own k).aU<0):qV own other s k=(bM (ab own k).ar.site==s):=by
 have:qV own other s k=(w8 own k&&(if 0<=placeOf other (ab own k).aU then equalIn other (ab own k) else bM (ab own k).ar.site==s)):=rfl;rw[this,h,if_neg om];rfl
def XK (own:List aA) (q:Call):(decide (placeOf own ⟨ab q.keys 0,q.ar⟩<0)||((ab own (placeOf own ⟨ab q.keys 0,q.ar⟩).toNat).val !=q.val)||((ab own (placeOf own ⟨ab q.keys 0,q.ar⟩).toNat).aj !=q.aj)||((ab own (placeOf own ⟨ab q.keys 0,q.ar⟩).toNat).call !=q.num))=!putAt own q:=by
 have e:decide (placeOf own ⟨ab q.keys 0,q.ar⟩<0)=!decide (0<=placeOf own ⟨ab q.keys 0,q.ar⟩):=by rw[Bool.eq_iff_iff];simp
 rw[e];unfold putAt;simp[bne]
def alp {own:List aA} {side:Int} {q:Call} (h:((q.aj !=side)||(q.kind !=1)||(q.end_==0))=true):w6 own side q=true:=by
 unfold w6;rw[h];rfl
def XL {own:List aA} {side:Int} {q:Call} (h:((q.aj !=side)||(q.kind !=1)||(q.end_==0))=false):w6 own side q=putAt own q:=by
 unfold w6;rw[h];rfl
def HK (x:ai) (s:Int) (i:Nat):Bool:=lB (ab (cT x (2*s)).aD i) (ab (cT x (2*s+1)).aD i)
def NR:ye prog 181 182 4 (vf prog 182) (λb:Bool=>Value.bool b) (λb=>.lit (.bool b)) (λ_=>True) false:=
 aaa (s:=325) abe wP (λw=>Aj.zero) JR oG aO aO aO aO (deep_law_gate aO (of_decide_eq_true aO) (of_decide_eq_true aO) aO aO)
set_option maxHeartbeats 8000000 in
def XM (x:ai) (s:Int) (mu:cK x=true) (u7:0<=s/\s<=1):
 Fn prog 91 [x.av,AV.int s] (AV.bool (sN x s)):=by
 refine Fn.go 178 func91 ntmps91 (λW I a U=>?_);have lens:x.aC.length<=9223372036854775807/\x.al.length<=9223372036854775807/\x.calls.length<=9223372036854775807/\x.seen.length<=9223372036854775807:=⟨U.ln 0 1,U.ln 0 2,U.ln 0 3,U.ln 0 4⟩;have h4:=(zf mu (k:=0) om).2.1;obtain⟨-,wa,-,-,sa⟩:=o6 mu (i:=(2*s).toNat) om;obtain⟨-,wb,-,-,sb⟩:=o6 mu (i:=(2*s+1).toNat) om;have Eo:=agp mu u7;have fL:=ago mu;have lwa:=ga wa;have lwb:=ga wb;refine aF λI a w U=>?_;refine U.da 9 ?_;simp only[TD];refine cG ?_;refine .o (.c2 (DK x s mu u7)) ?_;refine dO ?_;refine .o (bO (DK x (1-s) mu om) (ax (.t rfl) (ax (.t rfl) aH))) ?_;refine gW.alloc Q4 aaF ?_;refine bG ?_;refine .nil ?_;intro I a w U;obtain⟨b6,U⟩:=U.u6 (d:=6) rfl;refine U.IG 0 Q4 .tt .r (by first|exact j6 rfl|exact kg|exact kh|exact kr) rfl rfl λa w U=>?_;obtain⟨I,U⟩:=U.fb 0 6;refine nn<|sr<|U.makeMap rfl NR λNS a w U=>?_;rw[show(λ_:ve=>false)=tl (cg x s) 0 from(alk _).symm] at U;refine aX λI a w U=>?_;refine St.lo (σ:=Nat) (4::(run 2 9 (run 37 29 []))) ⟨λk=>[(29,AV.int k)],λk=>[Own.gone,Own.tM prog 182 4 (vf prog 182) (λb:Bool=>.lit (.bool b)) false NS (k) (tl (cg x s) (k))],λk=>k<=(cg x s).length/\∀i,i<k->(qV (cg x s) (cg x (1-s)) s) i=true⟩ (λk=>(cg x s).length-k) 0 U ?aI ?bF;case aI=>exact⟨Nat.zero_le _,λi hi=>by omega⟩
 rintro k I a w ao U;obtain⟨mU,aM⟩:=ao;refine aB λI a w U=>?_;refine cz (λae=>?_) λae=>?_
 .refine aG λI a w U=>?_;refine U.alloc rfl bL ee λb9 I a w U=>?_;refine aB λI a w U=>?_;obtain⟨I,U⟩:=U.fb 2 9;refine bx λI a w U=>?_;refine U.o (aac (l0:=[AV.val (.int .i64 0),AV.val (.int .i64 0)]) JR jH Q6 Q7 rfl (aZ.c rfl rfl .tt (by first|exact j6 rfl|exact kg|exact kh|exact kr) (aZ.c rfl rfl .tt (by first|exact j6 rfl|exact kg|exact kh|exact kr) aZ.nil))) λU=>?_;refine U.alloc rfl Q6 Q7 λm7 I a w U=>?_;refine aB λI a w U=>?_;obtain⟨I,U⟩:=U.fb 3 10;refine aG λI a w U=>?_;refine U.o (JB 1 NR .tt (Uc (wg (ab (cg x s) k) (En (Eo.1 _ (bh ae)))) .tt) rfl) λU=>?_;refine bx λI a w U=>?_;refine U.q .F (.cl (L4 ..)) λU=>?_;refine aF λI a w U=>?_;refine U.cd (λah=>?_) λah=>?_
  .rw[XH (En (Eo.1 _ (bh ae)))] at ah;replace ah:=nt ah;refine bf ?_;exact bB (by unfold sN;rw[eI (f:=qV (cg x s) (cg x (1-s)) s) ae (alo ah)];simp)
  rw[XH (En (Eo.1 _ (bh ae)))] at ah;replace ah:=nf ah;refine aG λI a w U=>?_;refine U.mapUpdate 1 NR .tt (Uc (wg (ab (cg x s) k) (En (Eo.1 _ (bh ae)))) .tt) .c gM om rfl λa w U=>?_;rw[alm (En (Eo.1 _ (bh ae)))] at U;refine nn<|wp_seq<|U.dk ?_;refine cG ?_;refine .o (.c1 (nA ..)) ?_;refine .o (.cl (oH ..)) ?_;refine bG ?_;refine .nil ?_;intro I a w U;refine bm ?_;refine cz (λaq=>?_) λaq=>?_
  .refine aG λI a w U=>?_;refine U.o (.cl (XF ..)) λU=>?_;refine aB λI a w U=>?_;refine U.cd (λaK=>?_) λaK=>?_
   .replace aK:=nt aK;refine bf ?_;exact bB (by unfold sN;rw[eI (f:=qV (cg x s) (cg x (1-s)) s) ae ((XI ah aq).trans aK)];simp)
   replace aK:=nf aK;refine aF λI a w U=>?_;have U:=U.drop 2;exact U.ag (k+1) (⟨by omega,eY aM ((XI ah aq).trans aK)⟩)
  refine bk λI a w U=>?_;refine U.o (.c1 (AU ..)) λU=>?_;refine aF λI a w U=>?_;refine U.cd (λaS=>?_) λaS=>?_
  .refine bf ?_;exact bB (by unfold sN;rw[eI (f:=qV (cg x s) (cg x (1-s)) s) ae ((XJ ah om).trans (by simpa using aS))];simp)
  refine aF λI a w U=>?_;have U:=U.drop 2;exact U.ag (k+1) (⟨by omega,eY aM ((XJ ah om).trans (by simpa using aS))⟩)
 refine zt ?_;have U:=U.jj;have U:=U.jj;refine U.gG [([],none),([],none),([],none),([],none),([],none),([],none),([],none),([],none),([],none),([],none),([],none),([],none),([],none),([2],some (2,[11])),([3],some (3,[12])),([2],some (2,[11])),([3],some (3,[12]))] aO aO rfl ?_;refine dO ?_;refine .o (mi .c .tt (λ_=>by omega)) ?_;refine fZ ?_;refine .o (mi .c .tt (λ_=>by omega)) ?_;refine dO ?_;refine bc.alloc 2 rfl rfl cA dS<|bc.alloc 3 rfl rfl cA dS<|bc.qu 2 rfl cA rfl .tt rfl rfl<|bc.qu 3 rfl cA rfl .tt rfl rfl<|.nil ?_;intro I a w U;obtain⟨mG,U⟩:=U.oC (d:=11) 2 rfl rfl;obtain⟨I,U⟩:=U.fb 2 11;obtain⟨xk,U⟩:=U.oC (d:=12) 3 rfl rfl;obtain⟨I,U⟩:=U.fb 3 12;refine aX λI a w U=>?_;refine St.lo (σ:=Nat) (4::(run 2 13 (run 14 82 []))) ⟨λk2=>[(82,AV.int k2)],λk2=>[Own.gone,Own.tM prog 182 4 (vf prog 182) (λb:Bool=>.lit (.bool b)) false NS (k) (tl (cg x s) (k)),Own.gone,Own.gone],λk2=>k2<=(ab x.aC (2*s).toNat).aD.length/\∀i,i<k2->(HK x s) i=true⟩ (λk2=>(ab x.aC (2*s).toNat).aD.length-k2) 0 U ?eo ?jK;case eo=>exact⟨Nat.zero_le _,λi hi=>by omega⟩
 rintro k2 I a w ao U;obtain⟨xu,iZ⟩:=ao;refine aB λI a w U=>?_;refine cz (λbA=>?_) λbA=>?_
 .refine bk λI a w U=>?_;refine U.alloc rfl fh oF λux I a w U=>?_;refine aF λI a w U=>?_;obtain⟨I,U⟩:=U.fb 4 14;refine U.dk ?_;refine eb ?_;refine .o ((by first|exact ff gQ fh .tt .tt (λ_=>by change k2<(ab x.aC (2*s+1).toNat).aD.length;omega)|exact iT gQ fh .tt .tt (λ_=>by change k2<(ab x.aC (2*s+1).toNat).aD.length;omega)|exact je gQ fh .tt .tt (λ_=>by change k2<(ab x.aC (2*s+1).toNat).aD.length;omega))) ?_;refine bG ?_;refine .o (.c2 (ali ..)) ?_;refine bG ?_;refine .nil ?_;intro I a w U;refine bm ?_;refine U.cd (λbt=>?_) λbt=>?_
  .change(!HK x s k2)=true at bt;replace bt:=nt bt;refine bf ?_;exact bB (by unfold sN;rw[show Mb x s=false from eI (f:=HK x s) bA bt];simp)
  change(!HK x s k2)=false at bt;replace bt:=nf bt;refine aF λI a w U=>?_;have U:=U.drop 4;exact U.ag (k2+1) (⟨by omega,eY iZ bt⟩)
 refine zt ?_;refine aX λI a w U=>?_;refine St.lo (σ:=Nat) (4::(run 2 16 (run 60 99 []))) ⟨λk3=>[(99,AV.int k3)],λk3=>[Own.gone,Own.tM prog 182 4 (vf prog 182) (λb:Bool=>.lit (.bool b)) false NS (k) (tl (cg x s) (k)),Own.gone,Own.gone],λk3=>k3<=x.calls.length/\∀i,i<k3->(λi=>w6 (cg x s) s (ab x.calls i)) i=true⟩ (λk3=>x.calls.length-k3) 0 U ?iD ?od;case iD=>exact⟨Nat.zero_le _,λi hi=>by omega⟩
 rintro k3 I a w ao U;obtain⟨GK,ov⟩:=ao;refine aB λI a w U=>?_;refine cz (λcr=>?_) λcr=>?_
 .refine aG λI a w U=>?_;refine U.alloc rfl eJ im λAR I a w U=>?_;refine aB λI a w U=>?_;obtain⟨I,U⟩:=U.fb 4 16;refine aas λI a w U=>?_;refine U.cd (λdC=>?_) λdC=>?_
  .refine zt ?_;refine aF λI a w U=>?_;have U:=U.drop 4;exact U.ag (k3+1) (⟨by omega,eY ov (alp dC)⟩)
  refine wp_skip<|bm<|wp_seq<|U.dk ?_;refine dO ?_;refine .o ((by first|exact ff kR jH .tt .c (λ_=>by have:=NQ mu cr;omega)|exact iT kR jH .tt .c (λ_=>by have:=NQ mu cr;omega)|exact je kR jH .tt .c (λ_=>by have:=NQ mu cr;omega))) ?_;refine dO ?_;refine .o (.bd gX (.k (.t aZ.nil))) ?_;refine .o (.cl (oH (cg x s) ⟨ab (ab x.calls k3).keys 0,(ab x.calls k3).ar⟩)) ?_;refine bG ?_;refine .nil ?_;intro I a w U;refine bm<|wp_seq<|U.dk ?_;refine fZ ?_;refine .q .F ((by first|exact ff di bL .ag .ag (λhg=>by have h0:0<=placeOf (cg x s) ⟨ab (ab x.calls k3).keys 0,(ab x.calls k3).ar⟩:=(by simp at hg;first|exact hg|exact hg.1|exact hg.1.1);have:=l7 h0;omega)|exact iT di bL .ag .ag (λhg=>by have h0:0<=placeOf (cg x s) ⟨ab (ab x.calls k3).keys 0,(ab x.calls k3).ar⟩:=(by simp at hg;first|exact hg|exact hg.1|exact hg.1.1);have:=l7 h0;omega)|exact je di bL .ag .ag (λhg=>by have h0:0<=placeOf (cg x s) ⟨ab (ab x.calls k3).keys 0,(ab x.calls k3).ar⟩:=(by simp at hg;first|exact hg|exact hg.1|exact hg.1.1);have:=l7 h0;omega))) ?_;refine vh ?_;refine .q .F ((by first|exact ff di bL .ag .ag (λhg=>by have h0:0<=placeOf (cg x s) ⟨ab (ab x.calls k3).keys 0,(ab x.calls k3).ar⟩:=(by simp at hg;first|exact hg|exact hg.1|exact hg.1.1);have:=l7 h0;omega)|exact iT di bL .ag .ag (λhg=>by have h0:0<=placeOf (cg x s) ⟨ab (ab x.calls k3).keys 0,(ab x.calls k3).ar⟩:=(by simp at hg;first|exact hg|exact hg.1|exact hg.1.1);have:=l7 h0;omega)|exact je di bL .ag .ag (λhg=>by have h0:0<=placeOf (cg x s) ⟨ab (ab x.calls k3).keys 0,(ab x.calls k3).ar⟩:=(by simp at hg;first|exact hg|exact hg.1|exact hg.1.1);have:=l7 h0;omega))) ?_;refine vh ?_;refine .q .F ((by first|exact ff di bL .ag .ag (λhg=>by have h0:0<=placeOf (cg x s) ⟨ab (ab x.calls k3).keys 0,(ab x.calls k3).ar⟩:=(by simp at hg;first|exact hg|exact hg.1|exact hg.1.1);have:=l7 h0;omega)|exact iT di bL .ag .ag (λhg=>by have h0:0<=placeOf (cg x s) ⟨ab (ab x.calls k3).keys 0,(ab x.calls k3).ar⟩:=(by simp at hg;first|exact hg|exact hg.1|exact hg.1.1);have:=l7 h0;omega)|exact je di bL .ag .ag (λhg=>by have h0:0<=placeOf (cg x s) ⟨ab (ab x.calls k3).keys 0,(ab x.calls k3).ar⟩:=(by simp at hg;first|exact hg|exact hg.1|exact hg.1.1);have:=l7 h0;omega))) ?_;refine iA ?_;refine .nil ?_;intro I a w U;refine bm ?_;refine U.cd (λgh=>?_) λgh=>?_
  .rw[XK] at gh;replace gh:=nt gh;refine bf ?_;exact bB (by unfold sN;rw[eI (f:=λi=>w6 (cg x s) s (ab x.calls i)) cr ((XL dC).trans gh)];simp)
  rw[XK] at gh;replace gh:=nf gh;refine aF λI a w U=>?_;have U:=U.drop 4;exact U.ag (k3+1) (⟨by omega,eY ov ((XL dC).trans gh)⟩)
 refine zt ?_;refine bx λI a w U=>?_;refine U.o (.li [LC (ab x.aC (2*s).toNat).waits,LC (ab x.aC (2*s+1).toNat).waits] aaG (.v (.v .nil))) λU=>?_;refine U.o (bO (ajO [(ab x.aC (2*s).toNat).waits,(ab x.aC (2*s+1).toNat).waits] (by simp[oV];omega)) (ax .r aH)) λU=>?_;refine g9 λI a w U=>?_;refine U.o (.cl (L4 ..)) λU=>?_;refine aG λI a w U=>?_;refine U.q .T (nu (ax .tt aH)) λU=>?_;refine U.q .T (.cl (J9 ([(ab x.aC (2*s).toNat).waits,(ab x.aC (2*s+1).toNat).waits]:List (List aA)).flatten (Gd (cg x (1-s))) _ (λv _=>Fn.val (alj v (cg x (1-s)))))) λU=>?_;refine tO ?_;exact bB (by unfold sN;rw[eX aM om,show Mb x s=true from eX iZ (by unfold cT;omega),eX ov om,adw];rfl)
def ajW (x:ai) (e:Ev) (hg:bX x) (ht:x.time<=1000000):
 Fn prog 212 [x.av,e.av] (AV.dG [(iG x e).1.av,AV.bool (iG x e).2]):=by
 refine Fn.go 87 func212 ntmps212 (λW I a U=>?_);have kK:=hg.al;have ka:=hg.aC;have mf:=Vq hg e;refine sr<|U.box rfl .tt λb2 I a w U=>U.o .bp λU=>U.alloc rfl dP dW λb4 I a w U=>?_;refine g9 λI a w U=>?_;refine U.o (.cl (jJ ..)) λU=>?_;refine aB λI a w U=>?_;refine U.cd (λae=>?_) λae=>?_
 .rw[Bool.not_eq_true'] at ae;refine aR λI a w U=>?_;refine U.ret rfl (.cons (.sx 1) (.cons (.t rfl) aV.nil)) ?_;exact(by rw[Hb ae];rfl)
 rw[Bool.not_eq_false'] at ae;have uT:=ae;simp only[aJ,Bool.and_eq_true,decide_eq_true_eq] at uT;have hm:=hg.words _ (bh (l:=x.al) (k:=e.word.toNat) om);refine dZ λI a w U=>?_;refine U.alloc rfl dV eU λb6 I a w U=>?_;refine U.sb 2 λU=>?_;obtain⟨I,U⟩:=U.fb 2 6;refine nn ?_;refine St.cut (σ:=List az) (run 23 24 []) ⟨λrd=>[],λrd=>[Own.box b2 28 [AV.int x.time,lG x.aC,dM rd,iL x.calls,j8 x.seen],Own.box b4 28 [AV.val (.int .i64 0),AV.rows 7 [],AV.rows 15 [],AV.rows 13 [],AV.rows 1 []],Own.gone],λrd=>rd=jo x e⟩ U ?td ?D0;case td=>
  refine pJ λI a w U=>?_;refine U.cd (λah=>?_) λah=>?_
  .have U:=U.jj;refine U.gG (rp 2 (([0],none)::rp 3 (([3],some (3,[38]))::([],none)::([0],none)::rp 4 [([3],some (3,[])),([],none),([0],some (0,[]))]))) aO aO rfl ?_;refine .o (wH gA dV) ?_;refine bG ?_;refine .r [0] (.lb 0) ?_;refine cG ?_;refine .o (B5 gA dV .r .tt (λ_=>by simp only[List.length_map];omega)) ?_;refine bc.Cn 3 rfl rfl gA dV rfl .tt .r ig ?_;refine bG ?_;refine .r [0] (.lb 0) ?_;refine dO ?_;refine .o (E0 gA dV .r .tt (λ_=>by simp only[List.length_map];omega)) ?_;refine bc.Fe 3 rfl rfl gA dV rfl .r ig ?_;refine bG ?_;refine bc.ji (x:=AV.any) 0 (λF W0 I0 I γ a w Q U kk=>U.s1 0 λU=>kk _ _ _ U) ?_;refine .nil ?_;intro I a w U;rw[<-List.map_take,<-List.map_drop,<-List.map_append,show(e.word+1).toNat=e.word.toNat+1 by omega] at U;refine bm ?_;have U:=U.drop 3;exact U.me (x.al.take e.word.toNat++x.al.drop (e.word.toNat+1)) (by first|exact(if_pos (by simpa using ah)).symm|exact(if_neg (by simpa using ah)).symm)
  refine zt ?_;have U:=U.drop 3;exact U.me x.al (by first|exact(if_pos (by simpa using ah)).symm|exact(if_neg (by simpa using ah)).symm)
 rintro rd I a w ao U;obtain rfl:rd=jo x e:=ao;refine aR λI a w U=>?_;refine cz (λaq=>?_) λaq=>?_
 .refine aR λI a w U=>?_;refine U.ret rfl (.cons (.sx 1) (.cons (.t rfl) aV.nil)) ?_;exact(by rw[xC ae,if_pos aq];rfl)
 refine aG λI a w U=>?_;refine U.o (.c1 (C1 ..)) λU=>?_;refine zt ?_;refine U.cd (λaK=>?_) λaK=>?_
 .refine aG λI a w U=>?_;refine U.o (.c2 (ai4 {x with al:=jo x e} (ab x.al e.word.toNat) mf ht aK)) λU=>?_;refine aF λI a w U=>?_;refine U.ret rfl (.cons (.sx 1) (.cons (.t rfl) aV.nil)) ?_;exact(by rw[xC ae,if_neg aq,if_pos aK];rfl)
 have eO:=aeo hm aK;have iR:=(hg.site (ab x.al e.word.toNat).to.toNat om).2;refine zt ?_;have U:=U.jj;refine U.gG [([],none),([0],none),([],none),([],none),([],none),([],none),([],none),([],none),([],none),([],none),([],none),([3],some (3,[7])),([3],some (3,[7])),([],none)] aO aO rfl ?_;refine bG ?_;refine .r [0] (.lb 0) ?_;refine fZ ?_;refine .o (.c2 (ai2 (ab x.aC (ab x.al e.word.toNat).to.toNat) (ab x.al e.word.toNat) iR)) ?_;refine dO ?_;refine bc.alloc 3 rfl rfl cA dS<|bc.qu 3 rfl cA rfl .tt rfl rfl ?_;refine bG ?_;refine .nil ?_;intro I a w U;obtain⟨b7,U⟩:=U.oC (d:=7) 3 rfl rfl;obtain⟨I,U⟩:=U.fb 3 7;refine zt ?_;refine U.l0 λb68 I a w U=>?_;refine aG λI a w U=>?_;refine U.ap 4 λv71 a w U=>?_;simp only[List.nil_append] at U;refine U.o .fv λU=>?_;try have aso:=U.fI 4 rfl
 refine aB λI a w U=>?_;obtain⟨DY,DZ,tc⟩:=U.ku 4 rfl qh;subst tc;refine bY λI a w U=>?_;refine U.o (jF vi cA .tt .tt (λ_=>by simp only[List.length_map];omega)) λU=>?_;refine U.mn 4 cA .tt .tt rfl (by exact gB om) rfl rfl λa w U=>?_;refine nn<|wp_seq ?_;have e9:∀y,y=Server.cells (cN (ab x.aC (ab x.al e.word.toNat).to.toNat) (ab x.al e.word.toNat)).1->(List.map Server.cells x.aC).set (ab x.al e.word.toNat).to.toNat y=List.map Server.cells (x.aC.set (ab x.al e.word.toNat).to.toNat (cN (ab x.aC (ab x.al e.word.toNat).to.toNat) (ab x.al e.word.toNat)).1):=λy hy=>by rw[hy,List.map_set]
 rw[e9] at U;rotate_left
 .rfl
 obtain⟨I,U⟩:=U.fu 4 1 0;refine St.region ?_;refine U.l0 λb79 I a w U=>?_;refine aG λI a w U=>?_;refine U.append 5 rfl gA dV rfl .tt .r rfl (by have h9:(jo x e).length<=60:=mf.al;simp;omega) λM3 a w U=>?_;simp only[List.nil_append] at U;refine U.m λU=>?_;refine U.fR [5] (Gu M3 (jo x e) (cN (ab x.aC (ab x.al e.word.toNat).to.toNat) (ab x.al e.word.toNat)).2 mf.al) (ax .r (ax .r aH)) rfl aP rfl λI a w U=>?_;refine cF λI a w U=>?_;refine U.ret rfl (.cons (.sx 1) (.cons (.t rfl) aV.nil)) ?_;exact(by rw[xC ae,if_neg aq,if_neg (by rw[aK];simp)];rfl)
end Go.Proofs.YtldbakcpcfdlaaaGreat
