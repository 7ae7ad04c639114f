/- Part 22: contracts of functions, plain facts. -/
import Derived.Test.YtdanidpleofjgaaGreatP16
import Derived.Test.YtdanidpleofjgaaGreatP17
import Derived.Test.YtdanidpleofjgaaGreatP18
set_option linter.all false
set_option maxRecDepth 100000
set_option maxHeartbeats 4000000
namespace Go.Proofs.YtdanidpleofjgaaGreat
open Go Go.RowKit Tryz
attribute [local irreducible] wpList Code.wp Ok
def vj (s:Server):
 Fn prog 48 [s.av] (AV.bool (gQ s)):=by
 refine Fn.go 177 func48 ntmps48 (λW I a U=>?_);have lens:s.aF.length<=9223372036854775807/\s.an.length<=9223372036854775807/\s.waits.length<=9223372036854775807/\s.aD.length<=9223372036854775807:=⟨U.ln 0 2,U.ln 0 3,U.ln 0 4,U.ln 0 5⟩;refine bz λI a w U=>?_;refine U.o (.c1 (rS ..)) λU=>?_;refine uD λI a w U=>?_;refine U.q .F (.cl (tv ..)) λU=>?_;refine bO λI a w U=>?_;refine U.q .F (.cl (tv ..)) λU=>?_;refine bO λI a w U=>?_;refine U.q .F (.cl (Hm ..)) λU=>?_;refine bO λI a w U=>?_;refine U.q .F (.cl (Hm ..)) λU=>?_;refine AQ λI a w U=>?_;refine U.cd (λae=>?_) λae=>?_
 .rw[DH] at ae;replace ae:=nt ae;refine bc ?_;exact bF (by unfold gQ;rw[ae];rfl)
 rw[DH] at ae;replace ae:=nf ae;obtain⟨BP,xi,IX,hco,hck,IY⟩:=DI ae;refine ax λI a w U=>?_;refine St.lo (σ:=Nat) (run 2 2 (run 43 55 [])) ⟨λk1=>[(3,AV.int k1)],λk1=>[],λk1=>k1<=s.aF.length/\∀i,i<k1->(se s) i=true⟩ (λk1=>s.aF.length-k1) 0 U ?aL ?bG;case aL=>exact⟨Nat.zero_le _,λi hi=>by omega⟩
 rintro k1 I a w al U;obtain⟨aa2,xj⟩:=al;refine ct λI a w U=>?_;refine cz (λah=>?_) λah=>?_
 .refine dI λI a w U=>?_;refine U.o (.cl (jg ..)) λU=>?_;refine lI λI a w U=>?_;refine U.q .F (.cl (jg ..)) λU=>?_;refine G2 λI a w U=>?_;refine U.cd (λaj=>?_) λaj=>?_
  .rw[Pa] at aj;replace aj:=nt aj;refine bc ?_;exact bF (by rw[BB,ae,fN (f:=se s) ah aj];simp)
  rw[Pa] at aj;replace aj:=nf aj;refine aN λI a w U=>?_;exact U.ag (k1+1) (⟨by omega,gO xj aj⟩)
 refine zt ?_;refine aV λI a w U=>?_;refine U.o (.cl (P6 _ _ BP xi)) λU=>?_;refine bO λI a w U=>?_;refine U.q .F (.cl (P6 _ _ BP IX)) λU=>?_;refine aB λI a w U=>?_;refine U.cd (λaJ=>?_) λaJ=>?_
 .refine bc ?_;exact bF (by rw[BB,ae];revert aJ;cases de s.an.length (pe s s.an)<;>cases de s.waits.length (pe s s.waits)<;>simp)
 rw[Bool.or_eq_false_iff] at aJ;obtain⟨I4,I5⟩:=aJ;replace I4:=nf I4;replace I5:=nf I5;refine ax λI a w U=>?_;refine St.lo (σ:=Nat) (2::(run 3 4 (run 40 110 []))) ⟨λk2=>[(4,AV.int k2)],λk2=>[],λk2=>k2<=s.waits.length/\∀i,i<k2->(wO s) i=true⟩ (λk2=>s.waits.length-k2) 0 U ?ei ?jK;case ei=>exact⟨Nat.zero_le _,λi hi=>by omega⟩
 rintro k2 I a w al U;obtain⟨zn,jL⟩:=al;refine ct λI a w U=>?_;refine cz (λaP=>?_) λaP=>?_
 .refine zt ?_;have U:=U.gF;refine U.dh [([],none),([],none),([],none),([],none),([],none),([],none),([],none),([],none),([],none),([],none),([],none),([],none),([],none),([],none),([],none),([],none),([],none),([],none),([0],some (0,[5])),([0],some (0,[5])),([],none)] aG aG rfl ?_;refine tk ?_;refine .o (.cl (sj ..)) ?_;refine dJ ?_;refine aK.alloc 0 rfl rfl bU dR<|aK.qv 0 rfl bU rfl .tt rfl rfl ?_;refine aX ?_;refine .nil ?_;intro I a w U;obtain⟨b5,U⟩:=U.my (d:=5) 0 rfl rfl;obtain⟨I,U⟩:=U.fb 0 5;refine bk<|wp_seq<|U.dk ?_;refine yv ?_;refine .q .F (.cl (qL ..)) ?_;refine cj ?_;refine .q .F (.cl (qL ..)) ?_;refine cj ?_;refine .nil ?_;intro I a w U;refine bk ?_;refine U.cd (λbn=>?_) λbn=>?_
  .rw[Pw s _ xi] at bn;replace bn:=nt bn;refine bc ?_;exact bF (by rw[BB,ae,fN (f:=wO s) aP bn];simp)
  rw[Pw s _ xi] at bn;replace bn:=nf bn;refine aN λI a w U=>?_;have U:=U.drop 0;exact U.ag (k2+1) (⟨by omega,gO jL bn⟩)
 refine zt ?_;refine ax λI a w U=>?_;refine St.lo (σ:=Nat) (2::(run 3 7 (run 27 150 []))) ⟨λk3=>[(7,AV.int k3)],λk3=>[],λk3=>k3<=s.aD.length/\∀i,i<k3->(sh s) i=true⟩ (λk3=>s.aD.length-k3) 0 U ?iN ?pj;case iN=>exact⟨Nat.zero_le _,λi hi=>by omega⟩
 rintro k3 I a w al U;obtain⟨Rz,vi⟩:=al;refine ct λI a w U=>?_;refine cz (λbl=>?_) λbl=>?_
 .refine zt ?_;have U:=U.gF;refine U.dh [([],none),([],none),([],none),([],none),([],none),([],none),([],none),([],none),([],none),([],none),([],none),([],none),([],none),([],none),([],none),([],none),([],none),([],none),([0],some (0,[8])),([0],some (0,[8])),([],none)] aG aG rfl ?_;refine tk ?_;refine .o (.cl (sj ..)) ?_;refine dJ ?_;refine aK.alloc 0 rfl rfl bU dR<|aK.qv 0 rfl bU rfl .tt rfl rfl ?_;refine aX ?_;refine .nil ?_;intro I a w U;obtain⟨b8,U⟩:=U.my (d:=8) 0 rfl rfl;obtain⟨I,U⟩:=U.fb 0 8;refine aB λI a w U=>?_;refine U.cd (λcm=>?_) λcm=>?_
  .rw[Qh s _ xi] at cm;replace cm:=nt cm;refine bc ?_;exact bF (by rw[BB,ae,fN (f:=sh s) bl cm];simp)
  rw[Qh s _ xi] at cm;replace cm:=nf cm;refine aN λI a w U=>?_;have U:=U.drop 0;exact U.ag (k3+1) (⟨by omega,gO vi cm⟩)
 refine zt ?_;refine bc ?_;exact bF (by rw[BB,ae,fJ xj om,I4,I5,fJ jL om,fJ vi om];rfl)
def aaZ (l:List aE) (ds:List ao):
 Fn prog 112 [bQ l,bw ds] (AV.bool (yO l ds)):=by
 refine Fn.go 9 func112 ntmps112 (λW I a U=>?_);refine zt ?_;refine U.o (yd .tt (by first|exact gn rfl|exact en|exact gC|exact gE)) λU=>?_;refine aH λI a w U=>?_;refine U.o (oJ (ai .tt aC)) λU=>?_;refine U.o (.cl (Qf ds (missing l) _ (λd _=>Fn.val (ZV d l)))) λU=>?_;refine di ?_;rfl
def xh (s:Server):
 Fn prog 56 [s.av] (AV.bool (gQ s)):=by
 refine Fn.go 127 func56 ntmps56 (λW I a U=>?_);have lens:s.aF.length<=9223372036854775807/\s.an.length<=9223372036854775807/\s.waits.length<=9223372036854775807/\s.aD.length<=9223372036854775807:=⟨U.ln 0 2,U.ln 0 3,U.ln 0 4,U.ln 0 5⟩;refine bz λI a w U=>?_;refine U.o (.c1 (tu ..)) λU=>?_;refine uD λI a w U=>?_;refine U.q .F (.cl (Bv ..)) λU=>?_;refine bO λI a w U=>?_;refine U.q .F (.cl (Bv ..)) λU=>?_;refine bO λI a w U=>?_;refine U.q .F (.cl (H5 ..)) λU=>?_;refine bO λI a w U=>?_;refine U.q .F (.cl (H5 ..)) λU=>?_;refine AQ λI a w U=>?_;refine U.cd (λae=>?_) λae=>?_
 .rw[DH] at ae;replace ae:=nt ae;refine bc ?_;exact bF (by unfold gQ;rw[ae];rfl)
 rw[DH] at ae;replace ae:=nf ae;obtain⟨BP,xi,IX,hco,hck,IY⟩:=DI ae;refine aY λI a w U=>?_;refine St.lo (σ:=Nat) (2::(4::(run 25 57 []))) ⟨λk1=>[(57,AV.int k1)],λk1=>[],λk1=>k1<=s.aF.length/\∀i,i<k1->(se s) i=true⟩ (λk1=>s.aF.length-k1) 0 U ?aL ?bG;case aL=>exact⟨Nat.zero_le _,λi hi=>by omega⟩
 rintro k1 I a w al U;obtain⟨aa2,xj⟩:=al;refine ax λI a w U=>?_;refine cz (λah=>?_) λah=>?_
 .refine aH λI a w U=>?_;refine U.alloc rfl ew mC λb4 I a w U=>?_;refine ax λI a w U=>?_;obtain⟨I,U⟩:=U.fb 0 4;refine aH λI a w U=>?_;refine U.o (.cl (iS ..)) λU=>?_;refine bz λI a w U=>?_;refine U.q .F (.cl (iS ..)) λU=>?_;refine AP λI a w U=>?_;refine U.cd (λaj=>?_) λaj=>?_
  .rw[Hv] at aj;replace aj:=nt aj;refine bc ?_;exact bF (by unfold gQ;rw[ae,fN (f:=se s) ah aj];simp)
  rw[Hv] at aj;replace aj:=nf aj;refine aB λI a w U=>?_;have U:=U.drop 0;exact U.ag (k1+1) (⟨by omega,gO xj aj⟩)
 refine zt ?_;refine aY λI a w U=>?_;refine St.lo (σ:=Nat) (2::(6::(run 10 85 []))) ⟨λk2=>[(85,AV.int k2)],λk2=>[],λk2=>k2<=s.an.length/\∀i,i<k2->(tx s) i=true⟩ (λk2=>s.an.length-k2) 0 U ?ei ?jK;case ei=>exact⟨Nat.zero_le _,λi hi=>by omega⟩
 rintro k2 I a w al U;obtain⟨zn,jL⟩:=al;refine ax λI a w U=>?_;refine cz (λaJ=>?_) λaJ=>?_
 .refine aH λI a w U=>?_;refine U.alloc rfl bU dR λb6 I a w U=>?_;refine ax λI a w U=>?_;obtain⟨I,U⟩:=U.fb 0 6;refine aV λI a w U=>?_;refine U.o (.c2 (Hw _ _ (qH (uP xi aJ)) BP)) λU=>?_;refine ax λI a w U=>?_;refine U.cd (λaP=>?_) λaP=>?_
  .rw[OW] at aP;replace aP:=nt aP;refine bc ?_;exact bF (by unfold gQ;rw[ae,fJ xj om,fN (f:=tx s) aJ aP];simp)
  rw[OW] at aP;replace aP:=nf aP;refine aB λI a w U=>?_;have U:=U.drop 0;exact U.ag (k2+1) (⟨by omega,gO jL aP⟩)
 refine zt ?_;refine aY λI a w U=>?_;refine St.lo (σ:=Nat) (2::(8::(run 24 98 []))) ⟨λk3=>[(98,AV.int k3)],λk3=>[],λk3=>k3<=s.waits.length/\∀i,i<k3->(sf s) i=true⟩ (λk3=>s.waits.length-k3) 0 U ?iN ?pj;case iN=>exact⟨Nat.zero_le _,λi hi=>by omega⟩
 rintro k3 I a w al U;obtain⟨Rz,vi⟩:=al;refine ax λI a w U=>?_;refine cz (λbn=>?_) λbn=>?_
 .refine aH λI a w U=>?_;refine U.alloc rfl bU dR λb8 I a w U=>?_;refine ax λI a w U=>?_;obtain⟨I,U⟩:=U.fb 0 8;refine U.dk ?_;refine dJ ?_;refine .o (.c2 (Hw _ _ (qH (uP IX bn)) BP)) ?_;refine dM ?_;refine .q .F (.cl (Hx ..)) ?_;refine gZ ?_;refine .q .F (.cl (nq ..)) ?_;refine .q .F (.cl (qV ..)) ?_;refine cj ?_;refine .nil ?_;intro I a w U;refine bk ?_;refine U.cd (λbl=>?_) λbl=>?_
  .rw[OX] at bl;replace bl:=nt bl;refine bc ?_;exact bF (by unfold gQ;rw[ae,fJ xj om,fJ jL om,fN (f:=sf s) bn bl];simp)
  rw[OX] at bl;replace bl:=nf bl;refine aB λI a w U=>?_;have U:=U.drop 0;exact U.ag (k3+1) (⟨by omega,gO vi bl⟩)
 refine zt ?_;refine bz λI a w U=>?_;refine U.o (.cl (aaZ ..)) λU=>?_;refine bc ?_;exact bF (by unfold gQ;rw[ae,fJ xj om,fJ jL om,fJ vi om];simp)
def RA {a b:List ao} (ha:bN a=true) (hb:bN b=true) (k:Nat):bN (iB a (b.take k))=true:=
 wX ha λd hd=>p7 hb (List.mem_of_mem_take hd)
def aa3 {c:Call} (h:nA c=true) (hd:bN c.aO=true) {i:Nat} (hi:i<c.aO.length):uU c i=qW c i:=by
 unfold uU qW;by_cases hg:0<=cB c (ab c.aO i).key
 .have h2:=p7 hd (bB hi);simp only[iP,Bool.and_eq_true] at h2;rw[O5 (Ig h (vf hg)).1 h2.2]
 simp[hg]
def kT (s:Server):List az:=if s.up then(leaving s).map (λi:Nat=>gi s (i:Int))++(s.aD.map (j8 s)).flatten++(Bi s).map (mb s) else[]
def fl (w:aI) (e:Ev):aI×Bool:=
 let s:=ab w.aw e.at_.toNat
 if e.kind=7 then({w with aw:=w.aw.set e.at_.toNat (pU s)},!s.up)
 else if e.kind=6 then({w with aw:=w.aw.set e.at_.toNat (ll s)},s.up)
 else if e.kind=8 then({w with au:=eB w.au (kT s)},s.up)
 else if l5 s e.slot then({w with aw:=w.aw.set e.at_.toNat (kO s e.slot),au:=eB w.au [gi (kO s e.slot) e.slot]},true) else(w,false)
def aa4 (l:List aE) (v:aE) (h:l.length<=1048575) (hd:∀u∈l,u.aR.length<=1048576) (hv:v.aR.length<=1048576):
 Fn prog 214 [bQ l,v.av] (bQ (pM l v)):=by
 refine Fn.go 46 func214 ntmps214 (λW I a U=>?_);refine aB λI a w U=>?_;refine U.l0 λb8 I a w U=>?_;refine aN λI a w U=>?_;refine St.lo (σ:=Nat×Bool×List aE×Value) (run 3 5 (run 29 9 [])) ⟨λ⟨k,done,out,u⟩=>[(7,AV.int k),(6,AV.bool done),(5,AV.val u)],λ⟨k,done,out,u⟩=>[Own.row u 62 7 (out.map aE.cells)],λ⟨k,done,out,u⟩=>lr l v k done out⟩ (λ⟨k,done,out,u⟩=>l.length-k) (0,false,[],.slice (some ⟨b8,0,none⟩) 0 0) U ?aL ?bG;case aL=>exact lr.zero l v
 rintro⟨k,done,out,u⟩ I a w al U;have hp:lr l v k done out:=al;have hk:=hp.hk;have jP:=hp.len;have pD:done.toNat<=1:=by cases done<;>simp
 dsimp only at U;refine aY λI a w U=>?_;refine cz (λae=>?_) λae=>?_
 .refine zt ?_;refine U.dk ?_;refine mB ?_;refine .q .T (.cl (Hh ..)) ?_;refine aX ?_;refine .nil ?_;intro I a w U;refine bk ?_;refine cz (λah=>?_) λah=>?_
  .refine aH λI a w U=>?_;refine U.o (.c1 (lN v hv)) λU=>?_;refine U.o (.li [v.cells] ju (.u .nil)) λU=>?_;refine U.ap 0 λtV a w U=>?_;rw[bV] at U;refine fo λI a w U=>?_;refine U.o (.c1 (lN (ab l k) (hd _ (bB ae)))) λU=>?_;refine U.o (.li [(ab l k).cells] ju (.u .nil)) λU=>?_;refine U.ap 0 λtO a w U=>?_;rw[bV] at U;refine aY λI a w U=>?_;exact U.ag (k+1,true,(out++[v])++[ab l k],tO) (by obtain⟨h1,h2⟩:=ah;subst h1;exact hp.before ae h2)
  refine bO λI a w U=>?_;refine U.o (.c1 (lN (ab l k) (hd _ (bB ae)))) λU=>?_;refine U.o (.li [(ab l k).cells] ju (.u .nil)) λU=>?_;refine U.ap 0 λtO a w U=>?_;rw[bV] at U;refine aY λI a w U=>?_;exact U.ag (k+1,done,out++[ab l k],tO) (hp.step ae (by simpa using ah))
 refine zt ?_;refine aB λI a w U=>?_;refine cz (λaj=>?_) λaj=>?_
 .refine aH λI a w U=>?_;refine U.o (.c1 (lN v hv)) λU=>?_;refine U.o (.li [v.cells] ju (.u .nil)) λU=>?_;refine U.ap 0 λtW a w U=>?_;rw[bV] at U;refine aN λI a w U=>?_;obtain⟨I,U⟩:=U.fr 0 4;refine U.rt ?_;exact congrArg (AV.rows 7) (by subst aj;exact hp.qU om▸rfl)
 refine aB λI a w U=>?_;obtain⟨I,U⟩:=U.fr 0 4;refine U.rt ?_;exact congrArg (AV.rows 7) (by subst aj;rw[hp.qT om])
def zA (s:Server) (h:qO s):
 Fn prog 84 [s.av] (s.av):=by
 refine Fn.go 27 func84 ntmps84 (λW I a U=>?_);obtain⟨h1,⟨h2,h3⟩,⟨h4,h5⟩,h6,h7⟩:=h;refine sr<|U.box rfl .tt λb1 I a w U=>U.alloc rfl cq dz λb2 I a w U=>?_;refine zt ?_;refine U.l0 λb3 I a w U=>?_;refine aH λI a w U=>?_;refine U.ap 2 λv6 a w U=>?_;obtain⟨I,U⟩:=U.fr 2 6;refine bz λI a w U=>?_;refine U.o (.cl (tK s.an h2 h3)) λU=>?_;refine bz λI a w U=>?_;refine U.o (.cl (tK s.waits h4 h5)) λU=>?_;refine aB λI a w U=>?_;refine U.l0 λy9 I a w U=>?_;refine aH λI a w U=>?_;refine U.ap 3 λlP a w U=>?_;obtain⟨I,U⟩:=U.fr 3 19;refine aB λI a w U=>?_;refine U.l0 λzx I a w U=>?_;refine aH λI a w U=>?_;refine U.ap 4 λw8 a w U=>?_;obtain⟨I,U⟩:=U.fr 4 24;refine aY λI a w U=>?_;refine U.ret rfl (.cons (.sx 1) ba.nil) ?_;rfl
def Ew (l:List aE) (v:aE) (hc:bY l=true):
 Fn prog 178 [bQ l,v.av] (AV.db [bQ (if gH l v then eE l v else l),AV.bool (gH l v)]):=by
 refine Fn.go 37 func178 ntmps178 (λW I a U=>?_);have hle:=U.dE (t:=0) rfl;have zc:=gz hc;have dV:=ph hc;refine bz λI a w U=>?_;refine U.o (.cl (tv ..)) λU=>?_;refine ax λI a w U=>?_;refine U.cd (λae=>?_) λae=>?_
 .exfalso;rw[hc] at ae;cases ae;skip
 refine bO λI a w U=>?_;refine U.o (.cl (sj ..)) λU=>?_;refine aV λI a w U=>?_;refine U.alloc rfl bU dR λb6 I a w U=>?_;refine U.sb 0 λU=>?_;obtain⟨I,U⟩:=U.fb 0 6;refine aH λI a w U=>?_;refine U.o (.c1 (Du ..)) λU=>?_;refine mA λI a w U=>?_;refine U.cd (λah=>?_) λah=>?_
 .rw[Eb v hc] at ah;replace ah:=nt ah;refine bA λI a w U=>?_;refine U.o (cr (tK l om (λu hu=>by have:=dV u hu;omega)) (ai .r aC)) λU=>?_;refine di ?_;exact(by rw[ah];rfl)
 rw[Eb v hc] at ah;replace ah:=nf ah;refine aH λI a w U=>?_;refine U.o (cr (aa4 l v om (λu hu=>by have:=dV u hu;omega) (by have:=eL (DW (rY ah).1);omega)) (ai .r (ai (.t rfl) aC))) λU=>?_;refine di ?_;exact(by rw[ah,<-Ih (pT (rY ah).2.1)];rfl)
def Ex {s:Server} {m:az} (h:bH s) (hm:bM m=true) (ho:jG (jR s m)=true):(fk s m).ar.site=s.site/\dr (fk s m).ar=true/\∀x∈jR s m,x.time<(fk s m).ar.time:=by
 obtain⟨h1,h2,h3⟩:=Zk h.site (Iw h hm) ho;exact⟨h2,h1,h3⟩
def aa5 {s:Server} {m:az} (h:bH s) (hm:bM m=true):∀w∈(im s m).2,bM w=true:=by
 unfold im;split
 .split
  .rename_i v hv;intro w hw;obtain rfl:w=_:=by simpa using hw
   exact P9 h hm (jv (gy h.an v (OP hv).1)).2.1
  split
  .rename_i hk;simp only[Bool.and_eq_true,decide_eq_true_eq] at hk;intro w hw;obtain rfl:w=_:=by simpa using hw
   exact P9 h hm (Ex h hm hk.1.1).2.1
  intro w hw;simp at hw
 intro w hw;simp at hw
def IZ {s:Server} {m:az} (h:bH s) (hm:bM m=true) (ho:gf s m.key=true) (hk:(jG (jR s m)&&gH s.an (fk s m)&&decide (s.aD.length<80))=true):bH {s with an:=eE s.an (fk s m),aD:=eF s.aD (fk s m).bh}:=by
 simp only[Bool.and_eq_true,decide_eq_true_eq] at hk;obtain⟨a1,a2,a3⟩:=Ex h hm hk.1.1;exact h.put hk.1.2 (by rw[a1]) (by show dU s m.key≠0;rw[(wM ho).2];omega) hk.2
def aa6 {s:Server} {v:aE} (hk:df v.key=true):(gf s v.key&&!hasB (λd=>!l6 s d) v.aR)=kt s v:=by
 have e:=BA (p:=λd=>!l6 s d) (l:=v.aR);simp only[Bool.not_not] at e;unfold gf kt Bh;rw[hk,e];simp
def aa7 (s:Server) (v:aE) (hl:s.aF.length=3) (hk:df v.key=true):
 Fn prog 262 [v.av,AV.ptr s.cells] (AV.bool (kt s v)):=by
 refine Fn.go 15 func262 ntmps262 (λW I a U=>?_);refine bO λI a w U=>?_;refine U.o (.c2 (yS s v.key hl)) λU=>?_;refine aV λI a w U=>?_;refine U.q .T (oJ (ai .tt aC)) λU=>?_;refine U.q .T (.cl (Qf v.aR (λd=>!l6 s d) _ (λd _=>Fn.val (aac s d)))) λU=>?_;refine tj ?_;exact bF (aa6 hk)
def RB {s:Server} (hu:s.up=false):kT s=[]:=by unfold kT;rw[hu];rfl
def aa8 {q:Call} {k:Nat} (hk:k<=q.aA.length) (h:q.aA.length<=k):nB q k=q.aO++j9 q:=by rw[Q1 q k hk];unfold j9;rw[List.take_of_length_le h]
def aa9 {w:aI} {e:Ev} (h:e.kind=8):fl w e=({w with au:=eB w.au (kT (ab w.aw e.at_.toNat))},(ab w.aw e.at_.toNat).up):=by unfold fl;rw[if_neg om,if_neg om,if_pos h]
def aba {s:Server} {slot:Int} (h:l5 s slot=false):eG s slot=(s,cn,false):=by unfold eG;rw[h];rfl
def l9.ext {w x:aI} (h:Ext w x) {σ:Nat} {D:List ao} (hc:l9 w σ D):l9 x σ D:=λd hd=>let⟨u,h1,h2,h3⟩:=hc d hd;⟨u,h.eO h1,h2,h3⟩
def RC {s:Server} {m:az} (hm:bM m=true) {l vs:List aE} (hl:∀v∈l,cW v.key≠m.slot) (hv:∀v∈vs,cW v.key=m.slot) (hc:bY vs=true) (x:aE):x∈iU l vs↔x∈l\/x∈vs:=
 Q3 (λu hu v dP e=>hl u hu (by rw[show u.key=v.key from congrArg ao.key e];exact hv v dP)) (Zx (P7 hc)) x
def RD {w:aI} {σ:Nat} {D:List ao} {v:aE} (hc:l9 w σ D) (hD:bN D=true) (hv:cF w σ v) (al:dr v.ar=true) (hl:uO v.aR D):l9 w σ (eS D v.bh):=λd hd=>by
 have hle:=ZA (d:=v.bh) hD al;rcases HE hd with rfl|hd
 .exact⟨v,hv,rfl,Ef hl hle⟩
 obtain⟨u,h1,h2,h3⟩:=hc d hd;exact⟨u,h1,h2,Ef h3 hle⟩
def RE {l:List Answer} {a:Answer} (h:a∈l) (key:Int):ck (j7 l key) (bL a.bm.aR key)=false:=by
 induction l with
 |nil=>simp at h
 |cons b r ih=>
  show ck (dA (bL b.bm.aR key) (j7 r key)) _=false
  rcases List.mem_cons.1 h with rfl|h
  .exact Ie _ _
  exact D2 (ih h) (QI _ _)
def abb {l:List Call} {p:Call} {i:Nat} {x:Int} (hi:i<l.length):j5 (l++[p]) i x=if 0<=j5 l i x then j5 l i x else if p.aq=x then((l.length-(i+1):Nat):Int) else-1:=by
 unfold j5;rw[List.drop_append_of_le_length om];unfold dm;rw[List.findIdx?_append];cases h:(l.drop (i+1)).findIdx? (yU x) with
 |some k=>simp
 |none=>
  by_cases hp:p.aq=x
  .simp[List.findIdx?_cons,yU,hp]
  simp[List.findIdx?_cons,yU,hp]
def zw {l:List Int} {n:Int}:g9 l n=true↔n∈l:=by
 constructor
 .intro h;obtain⟨x,hx,he⟩:=Ir h;simp[uK] at he;exact he▸hx
 exactλh=>DJ h (by simp[uK])
def aaL {c:Call} (h:kK c.keys=true) (i:Nat):va c i=pZ c i:=by
 unfold va pZ;cases h1:eQ (λa=>g9 c.keys a.key) gR c.aA i
 .simp
 have h2:g9 c.keys (ab c.aA i).key=true:=by unfold eQ at h1;rw[Bool.and_eq_true] at h1;exact h1.1
 have:=yP h (zw.1 h2);unfold wy dF;cases(ab c.aA i).yes<;>simp[this]
def IP {c:Call} (hk:kK c.keys=true) (h:nA c=true):c.aA.length<=c.keys.length:=
 DK (f:=Answer.key) (O8 hk) (O7 λi h0 hi=>by
  have:=(js.1 h) i hi;unfold pZ eQ at this;simp[gR] at this;have h1:=this.1.2;omega) λa ha=>by
  obtain⟨k,eX,rfl⟩:=g7 ha;exact zw.1 (Ig h eX).2
def Rp {s:Server} (h:eN s<0):iX s=s:=by
 unfold iX;cases s.waits.length with
 |zero=>rfl
 |succ n=>show(if eN s<0 then s else _)=_;rw[if_pos h]
def En (l:List ao) (d:ao) (hl:bN l=true) (hd:iP d=true):
 Fn prog 133 [bw l,d.av] (bw (eS l d)):=by
 refine Fn.go 85 func133 ntmps133 (λW I a U=>?_);have ss:=eL hl;have zq:=OH d;refine sr<|U.box rfl .tt λb3 I a w U=>?_;refine aH λI a w U=>?_;refine U.o (.cl (pI ..)) λU=>?_;refine aV λI a w U=>?_;refine U.q .F (.li [_] fE (.u .nil)) λU=>?_;refine U.q .F (.cl (pI [d])) λU=>?_;refine aB λI a w U=>?_;refine U.cd (λae=>?_) λae=>?_
 .exfalso;rw[hl,zq,hd] at ae;cases ae;skip
 refine zt ?_;refine U.l0 λEo I a w U=>?_;refine aN λI a w U=>?_;refine St.lo (σ:=Nat×Bool×List ao×Value×ao) (run 3 5 (run 59 19 [])) ⟨λ⟨k,done,out,v,e⟩=>[(7,AV.int k),(6,AV.bool done),(5,AV.val v)],λ⟨k,done,out,v,e⟩=>[Own.box b3 115 e.cells,Own.row v 115 3 (out.map ao.cells)],λ⟨k,done,out,v,e⟩=>jT l d k done out/\e.key=d.key/\(done=false->e=d)⟩ (λ⟨k,done,out,v,e⟩=>l.length-k) (0,false,[],.slice (some ⟨Eo,0,none⟩) 0 0,d) U ?aL ?bG;case aL=>exact⟨jT.zero l d,rfl,λ_=>rfl⟩
 rintro⟨k,done,out,v,e⟩ I a w al U;obtain⟨hp,jV,rj⟩:=al;have hk:=hp.hk;have jP:=hp.len;have pD:done.toNat<=1:=by cases done<;>simp
 dsimp only at U;refine aY λI a w U=>?_;refine cz (λah=>?_) λah=>?_
 .refine ax λI a w U=>?_;refine cz (λaj=>?_) λaj=>?_
  .refine wp_seq<|wp_seq<|U.dk ?_;refine lh ?_;refine .q .T (CC 0 jF .ag rfl rfl rfl) ?_;refine fD ?_;refine .q .T (.cl (wx ..)) ?_;refine aX ?_;refine .nil ?_;intro I a w U;refine bk ?_;refine cz (λaJ=>?_) λaJ=>?_
   .refine fo λI a w U=>?_;refine U.o (.li [(ab l k).cells] fE (.u .nil)) λU=>?_;refine U.ap 1 λxe a w U=>?_;rw[bV] at U;refine aN λI a w U=>?_;refine AN (λaP=>?_) λaP=>?_
    .exfalso;simp at aP;skip
    refine aN λI a w U=>?_;exact U.ag (k+1,true,out++[ab l k],xe,ab l k) (by obtain⟨h1,h2⟩:=aj;obtain rfl:=rj h1;subst h1;have h:=(hp.same hl ah aJ.1).2;rw[<-DS _ _ aJ.1,if_pos aJ.2] at h;exact⟨h,aJ.1,λh=>by cases h⟩)
   refine aH λI a w U=>?_;refine U.o (.li [e.cells] fE (.u .nil)) λU=>?_;refine U.ap 1 λxe a w U=>?_;rw[bV] at U;refine aN λI a w U=>?_;refine cz (λbn=>?_) λbn=>?_
   .refine bO λI a w U=>?_;refine U.o (.li [(ab l k).cells] fE (.u .nil)) λU=>?_;refine U.ap 1 λxf a w U=>?_;rw[bV] at U;refine aY λI a w U=>?_;exact U.ag (k+1,true,(out++[e])++[ab l k],xf,e) (by obtain⟨h1,h2⟩:=aj;obtain rfl:=rj h1;subst h1;exact⟨hp.before hl ah om,rfl,λh=>by cases h⟩)
   refine aN λI a w U=>?_;exact U.ag (k+1,true,out++[e],xe,e) (by obtain⟨h1,h2⟩:=aj;obtain rfl:=rj h1;subst h1;have h:=(hp.same hl ah bn).2;rw[<-DS _ _ bn,if_neg (by rcases aJ with h4|h4;exact absurd bn h4;rw[h4];simp)] at h;exact⟨h,rfl,λh=>by cases h⟩)
  refine ax λI a w U=>?_;refine oV (λbl=>?_) λbl=>?_
  .refine bO λI a w U=>?_;refine U.o (.li [(ab l k).cells] fE (.u .nil)) λU=>?_;refine U.ap 1 λxf a w U=>?_;rw[bV] at U;refine aY λI a w U=>?_;exact U.ag (k+1,done,out++[ab l k],xf,e) (⟨hp.step ah om λhd=>by(rcases aj with h|h;(rw[hd] at h;cases h);omega),jV,rj⟩)
  exfalso;simp only[bne_eq_false_iff_eq] at bl;rcases aj with h|h;(have:=hp.late h k (Nat.le_refl _) ah;omega);omega
  skip
 refine zt ?_;refine aB λI a w U=>?_;refine cz (λcm=>?_) λcm=>?_
 .refine aH λI a w U=>?_;refine U.o (.li [e.cells] fE (.u .nil)) λU=>?_;refine U.ap 1 λIQ a w U=>?_;rw[bV] at U;refine aN λI a w U=>?_;obtain⟨I,U⟩:=U.fr 1 4;refine U.rt ?_;exact congrArg (AV.rows 3) (by obtain rfl:=rj cm;subst cm;exact hp.qU om▸rfl)
 refine aB λI a w U=>?_;obtain⟨I,U⟩:=U.fr 1 4;refine U.rt ?_;exact congrArg (AV.rows 3) (by subst cm;rw[hp.qT om])
def Ep:AL prog 126 3 3 (λx:Int=>Lit.int .i64 x) (λx:Int=>Value.int .i64 x) (λx=>.lit (.int .i64 x)) (λx=>-9223372036854775808<=x/\x<=9223372036854775807) 0:=V9 W9 qA qA λw=>cx.zero
def aaM (s:Server) (h:qO s):
 bT prog 84 [s.av] [] (λ_:Value=>True) (λv=>[Own.row v 46 2 (s.aF.map cG.cells)]) s.yG:=by
 refine bT.intro 27 func84 rfl ntmps84 rfl aG (λW I a U=>?_);obtain⟨h1,⟨h2,h3⟩,⟨h4,h5⟩,h6,h7⟩:=h;refine sr<|U.box rfl .tt λb1 I a w U=>U.alloc rfl cq dz λb2 I a w U=>?_;refine zt ?_;refine U.l0 λb3 I a w U=>?_;refine aH λI a w U=>?_;refine U.ap 2 λv6 a w U=>?_;refine U.o .fv λU=>?_;try have ho6:=U.dZ 2 rfl
 refine aV λI a w U=>?_;refine U.o (.cl (tK s.an h2 h3)) λU=>?_;refine bz λI a w U=>?_;refine U.o (.cl (tK s.waits h4 h5)) λU=>?_;refine aB λI a w U=>?_;refine U.l0 λy9 I a w U=>?_;refine aH λI a w U=>?_;refine U.ap 3 λlP a w U=>?_;obtain⟨I,U⟩:=U.fr 3 19;refine U.o .fv λU=>?_;try have Rq:=U.dZ 3 rfl
 refine ax λI a w U=>?_;refine U.l0 λzx I a w U=>?_;refine aH λI a w U=>?_;refine U.ap 4 λw8 a w U=>?_;obtain⟨I,U⟩:=U.fr 4 24;refine U.o .fv λU=>?_;try have Rr:=U.dZ 4 rfl
 refine aN λI a w U=>?_;exact U.bJ v6 [2] rfl (.cons (.s 1 cq rfl rfl (by first|rfl|assumption)) .nil) trivial rfl rfl
def eM.xg {s:Server} (h:eM s) (hp:0<=eN s):eM (mK s (eN s).toNat):=by
 obtain⟨hl,p6,_⟩:=zb hp;have hm:=bB hl;have hws:=(w4.1 h.waits).2.2;refine⟨h.aF,BD h.an (gy h.waits _ hm) (h.apart _ hm) p6,BE h.waits (yZ _ _),λv hv=>BC λx hx=>?_,h.bj⟩;obtain⟨k,hk,aZ,rfl⟩:=Y6 hv;rcases iL.1 hx with rfl|hx
 .exactλe=>PI hws hk hl aZ e.symm
 exact pT (h.apart _ (bB hk)) x hx
def eM.IS {s:Server} (h:eM s):eM (iX s):=by
 have:∀(n:Nat) (s:Server),eM s->eM (ka n s):=by
  intro n;induction n with
  |zero=>exactλs h=>h
  |succ n ih=>
   intro s h
   unfold ka
   split
   .exact h
   exact ih _ (h.xg om)
 exact this _ _ h
def eM.settle {s:Server} (h:eM s):eM (fQ s):=by
 have h2:=h.IS;exact⟨h2.aF,h2.an,h2.waits,h2.apart,Nat.le_trans (List.length_filter_le _ _) h2.bj⟩
def Rs {q:Call}:nA q=true↔(∀a∈q.aA,g9 q.keys a.key=true)/\(q.aA.Pairwise λa b=>gR a b=true)/\∀a∈q.aA,dF a=true:=by
 unfold nA;rw[js];have h1:=Is (bD:=λa:Answer=>g9 q.keys a.key) (less:=gR) (λh1 h2=>YJ h1 h2) (l:=q.aA);rw[js] at h1;unfold pZ;constructor
 .intro h;have h2:=h1.1 λi hi=>(Bool.and_eq_true _ _▸h i hi:_/\_).1;refine⟨h2.1,h2.2,λa ha=>?_⟩;obtain⟨k,hk,rfl⟩:=g7 ha;exact(Bool.and_eq_true _ _▸h k hk:_/\_).2
 rintro⟨a1,a2,a3⟩ i hi;rw[Bool.and_eq_true];exact⟨h1.2 ⟨a1,a2⟩ i hi,a3 _ (bB hi)⟩
def aaP {l:List aE} {v:aE} (hc:bY l=true) (hv:ef v=true) (hl:l.length<80):bY (gS l v)=true:=by
 unfold gS;split
 .rename_i hp;exact BD hc hv hp hl
 exact hc
def Rt (l vs:List aE) (hc:bY l=true) (hv:bY vs=true):
 Fn prog 266 [bQ l,bQ vs] (AV.db [bQ (iU l vs),AV.bool (decide (l.length+vs.length<=80))]):=by
 refine Fn.go 33 func266 ntmps266 (λW I a U=>?_);have hl:=gz hc;have pz:=gz hv;have dV:=ph hc;have su:=ph hv;have rH:=(w4.1 hv).2.2;refine aV λI a w U=>?_;refine U.o (cr (iA.fn (vb l om (λu hu=>by have:=dV u hu;omega))) (ai .r aC)) λU=>?_;refine aY λI a w U=>?_;refine St.lo (σ:=Nat) (6::(8::(run 13 13 []))) ⟨λk=>[(13,AV.int k),(6,bQ (iU l (vs.take k)))],λk=>[],λk=>k<=vs.length⟩ (λk=>vs.length-k) 0 U ?aL ?bG;case aL=>exact Nat.zero_le _
 rintro k I a w al U;have hk:k<=vs.length:=al;refine ax λI a w U=>?_;refine cz (λae=>?_) λae=>?_
 .refine aH λI a w U=>?_;refine U.alloc rfl bU dR λb8 I a w U=>?_;refine ax λI a w U=>?_;obtain⟨I,U⟩:=U.fb 0 8;refine aH λI a w U=>?_;refine U.o (.c1 (nq ..)) λU=>?_;refine U.o (.cl (qV ..)) λU=>?_;refine ax λI a w U=>?_;refine cz (λah=>?_) λah=>?_
  .refine aH λI a w U=>?_;refine U.o (cr (D8 (iU l (vs.take k)) (ab vs k) (by have:=HO l vs k;omega) (λu hu=>by have:=Zb dV su k u hu;omega) (by have:=su _ (bB ae);omega)) (ai .r (ai (.t rfl) aC))) λU=>?_;refine aN λI a w U=>?_;have U:=U.drop 0;refine U.again (k+1) ?ij ?ik dD ?il (by repeat(first|exact Env.le_rfl|refine Env.hP rfl ?_));case ij=>omega
   case ik=>exact ae
   case il=>exact(Env.dq rfl dD (Env.dq rfl (by first|exact congrArg bQ (Q0 rH ae ah)|exact congrArg bQ (QA ae om)) Env.le_nil))
  refine aB λI a w U=>?_;have U:=U.drop 0;refine U.again (k+1) ?mR ?mS dD ?mT (by repeat(first|exact Env.le_rfl|refine Env.hP rfl ?_));case mR=>omega
  case mS=>exact ae
  case mT=>exact(Env.dq rfl dD (Env.dq rfl (by first|exact congrArg bQ (Q0 rH ae ah)|exact congrArg bQ (QA ae om)) Env.le_nil))
 refine zt ?_;refine mA λI a w U=>?_;refine U.rt ?_;exact(by rw[List.take_of_length_le om,X9];rfl)
def aaQ {s x:Server} (h:iX x=iX s) (hp:eN x<0):fQ s={x with bj:=x.bj.filter λd=>!(!iT x d)}:=by
 have e:=Rp hp;unfold fQ DU;rw[<-h,e,Zd]
def Ru {l vs:List aE} (hl:bY l=true) (hv:bY vs=true) (hn:l.length+vs.length<=80):∀k,k<=vs.length->bY (iU l (vs.take k))=true
 |0,_=>by simpa[iU] using hl
 |k+1,hk=>by
  have h1:=Ru hl hv hn k om;have h2:=HO l vs k;rw[D0 om];exact aaP h1 (gy hv _ (bB om)) om
def Rv {s:Server} {k:Nat} (h:¬(ab s.aF k).dy=2):pg s k=pg s (k+1):=by
 unfold pg;rw[Yc h]
def Rw {s:Server} {k:Nat} (h:k=3):pg s k=iW s 0:=by subst h;simp[iW]
def Rx {s:Server} {k j:Nat} (hk:k<s.aD.length) (hj:2<=j):iW s k++(j8 s (ab s.aD k)).take j=iW s (k+1):=by
 rw[D7 hk,List.take_of_length_le (by have:=Qc s (ab s.aD k);omega)]
def mY.zero (l:List Answer) (v:Answer):mY l v 0 false []:=⟨Nat.zero_le _,by simp,by simp⟩
def uN.snoc {l:List aE} {I0:Im} {xs:List (tq l I0)} {x:tq l I0} (h:uN xs) (hx:x.1.1+1+xs.length=l.length):uN (xs++[x]):=λj y e=>by
 rcases Nat.lt_or_ge j xs.length with hj|hj
 .rw[List.getElem?_append_left hj] at e;exact h j y e
 rw[List.getElem?_append_right hj] at e;cases hk:j-xs.length with
 |zero=>rw[hk] at e;obtain rfl:x=y:=by simpa using e
        rw[show j=xs.length from by omega];exact hx
 |succ k=>rw[hk] at e;simp at e
def aaR (l:List aE) (n:Nat) (hn:1<=n) (I0:Im) (w0:World) (hm:dT w0 I0) (G:Nat->Prop) (hG:∀b cs,I0 b=some cs->¬G b) (p:Value) (hp:(AV.ptr [bQ l]).h I0 p):
 SeqStopsK Fence.wide n prog 177 #[p] (λx:tq l I0=>#[.int .i64 x.1.1,x.1.2]) (Kept G) (λxs=>xs.length=l.length/\uN xs) uN l.length w0:=λlp J Jx W hW hJ hJx hY h0=>by
 have hmW:dT W I0:=λb cs e=>by
  obtain⟨T,fr,k⟩:=hm b cs e;exact⟨T,fr,(hW.block b (hm.lt e)).trans k⟩
 obtain⟨vs,pz,Er,zy⟩:∃vs:List (List Value),vs.length=l.length/\(AV.ptr [AV.rows 7 (vs.map HT)]).h I0 p/\∀i,i<l.length->bx I0 (ab l i).cells (vs.getD i [])/\(AV.agg (ab l i).cells).h I0 (.agg (ab vs i).toArray)/\(ab vs i).length=7:=by
  obtain⟨q,e,h1,cs,h2,h3⟩:=hp;generalize hd:(cs.toList.drop q.off).take 1=ds at h3;match ds,h3 with
  |[v],h3=>
   obtain⟨vs,e1,e4,e2,e3⟩:=XM h3.1.1
   rw[List.map_congr_left λr hr=>PY (e4 r hr)] at e2
   refine⟨vs,by simpa using e1,⟨q,e,h1,cs,h2,by show bx _ _ (List.take 1 _);rw[hd];exact⟨⟨e2,h3.1.2⟩,trivial⟩⟩,λi hi=>?_⟩
   have:=e3 i (by simpa using hi)
   rw[UC aE.cells l i hi,show l[i]! =ab l i from by simp[ab,hi]] at this
   have hv:i<vs.length:=by rw[e1];simpa using hi
   have he:vs.getD i []=ab vs i:=by simp[ab,hv]
   exact⟨this,⟨_,rfl,by rw[<-he];exact this⟩,e4 _ (bB hv)⟩
 refine XJ (F:=kx) 19 func177 rfl ntmps177 (args:=[.val (.func (.yield lp) #[] #[]),.val p]) rfl hmW ⟨rfl,rfl,trivial⟩ λa U=>?_;have hQ:∀a w,¬bodyPost prog f177 (λe W'=>(∃v,e=.returned v)/\((∃xs:List (tq l I0),(xs.length=l.length/\uN xs)/\J xs W')\/∃pre,uN pre/\Jx pre W')) .outgrown a w:=λa w h=>by obtain⟨⟨v,e⟩,_⟩:=h;cases e
 have Es:∀{A B:World} {xs},A.grownBy B none->J xs A->J xs B:=λh k=>hJ _ _ _ none k h (λr e=>by cases e);have aaU:∀{A B:World} {xs},A.grownBy B none->Jx xs A->Jx xs B:=λh k=>hJx _ _ _ none k h (λr e=>by cases e);refine wpIn_seq (yz (by exact hQ) rfl ?_);refine U.oU 1 Er .l1 λ{I a w} U=>?_;have hle:=U.dE (t:=4) rfl;refine aV λI a w U=>?_;refine nn ?_;refine wpIn_block (wpIn_loop (λa w=>∃(k:Nat) (pre:List (tq l I0)),St ⟨w,I0,19,kx⟩ I0 [] [(3,.int ((k:Int)-1)),(1,.val p),(0,.val (.func (.yield lp) #[] #[]))] a w/\pre.length+k=l.length/\uN pre/\J pre w) (λa _=>HR a) ?_ ?_)
 .refine⟨l.length,[],?_,by simp,λj x e=>by simp at e,Es (U.grown rfl) h0⟩;refine(U.base [(3,.int .i64 ((l.length:Int)-1)),(1,p),(0,.func (.yield lp) #[] #[])] (by rw[<-pz];rfl))
 rintro a w ⟨k,pre,U,hk,hd,Ry⟩;have hmu:=PX U;refine wpIn_seq (wpIn_seq (yz (by exact hQ) rfl ?_));refine aH λI a w U=>?_;refine nn ?_;refine wpIn_cond_split (U.env 8 _ rfl) (λae=>?_) (λae=>?_)
 .refine wpIn_skip ?_;refine bk ?_;have ae:1<=k:=by simp only[B] at ae;omega
  refine wpIn_seq (wpIn_block (wpIn_seq (wpIn_region_lit ?_)));refine Dm (by exact hQ) [_,_] [_,_,_,_,_,_] rfl ?_;have lB:k<=vs.length:=by omega
  refine aH λI a w U=>?_;refine U.oU 1 Er .l1 λ{I a w} U=>?_;refine aV λI a w U=>?_;have hJ2:=Es (U.grown rfl) Ry;have hx:((k:Int)-1).toNat<l.length:=by omega
  refine nn (wpListIn_plain rfl λK hK=>?_);have uM:a.eval (.tmp 12)=.int .i64 ((((k:Int)-1).toNat:Nat):Int):=by
   rw[show a.eval (.tmp 12)=.int .i64 ((k:Int)-1) from U.env 12 _ rfl];congr 1;omega
  have h16:a.eval (.tmp 16)=.agg (ab vs ((k:Int)-1).toNat).toArray:=by
   have:(AV.agg (HT (ab vs ((k:Int)-1).toNat))).h I (a.eval (.tmp 16)):=U.env 16 _ rfl;rw[<-PY (zy _ hx).2.2] at this;exact XL this
  have mr:(#[.tmp 12,.tmp 16]:Array Operand).map a.eval=#[.int .i64 ((((k:Int)-1).toNat:Nat):Int),.agg (ab vs ((k:Int)-1).toNat).toArray]:=by simp[uM,h16]
  refine XI (λ_=>trivial) rfl (U.env 11 _ rfl) mr (hY pre ⟨(((k:Int)-1).toNat,.agg (ab vs ((k:Int)-1).toNat).toArray),hx,(zy _ hx).2.1⟩ w hJ2 om) λe w' he=>?_;have BK:=hd.snoc (x:=⟨(((k:Int)-1).toNat,.agg (ab vs ((k:Int)-1).toNat).toArray),hx,(zy _ hx).2.1⟩) (by show((k:Int)-1).toNat+1+_=_;omega);rcases he with⟨rfl,IT,AG⟩|⟨rfl,IT⟩
  .refine⟨_,rfl,hK _ _ ?_⟩;have U:=(U.GK [(3,.int .i64 ((k:Int)-1)),(1,p),(0,.func (.yield lp) #[] #[])] hG AG).Dn (d:=17) (x:=.bool true) (v:=.bool true) (show 17<19 from by decide) rfl;refine Dm (by exact hQ) [] [_] rfl ?_;refine bA λI a w U=>?_;refine nn ?_;refine bk ?_;refine wpIn_cond_split (U.env 18 _ rfl) (λah=>by cases ah) (λah=>?_);refine wpIn_skip ?_;refine z7 ?_;refine bk ?_;refine yz (by exact hQ) rfl ?_;refine aV λI a w U=>?_;have h3:St _ _ _ _ _ _:=U.base [(3,.int .i64 ((((k-1:Nat)):Int)-1)),(1,p),(0,.func (.yield lp) #[] #[])] (by rw[show(((k-1:Nat):Int)-1)=(k:Int)-1-1 from by omega];rfl);refine wpList_nil (bk ?_);refine⟨⟨k-1,_,h3,by simp;omega,BK,Es (U.grown rfl) IT⟩,?_⟩;rw[hmu,PX (k:=k-1) h3];omega
  refine⟨_,rfl,hK _ _ ?_⟩;have U:=(U.blank w' []).Dn (d:=17) (x:=.bool false) (v:=.bool false) (show 17<19 from by decide) rfl;refine Dm (by exact hQ) [] [_] rfl ?_;refine bA λI a w U=>?_;refine nn ?_;refine bk ?_;refine wpIn_cond_split (U.env 18 _ rfl) (λah=>?_) (λah=>by cases ah);refine wpIn_ret ?_;refine vI (yc (yc (vI ?_)));exact⟨U.defers,_,results_none rfl _ _ _,⟨_,rfl⟩,.inr ⟨_,BK,aaU (U.grown rfl) IT⟩⟩
 refine wpIn_exit ?_;refine cM (cM (fI ?_));have IU:k=0:=by
  have ae:¬(0<=(k:Int)-1):=by simpa using ae
  omega
 exact⟨U.defers,_,results_none rfl _ _ _,⟨_,rfl⟩,.inl ⟨_,⟨by omega,hd⟩,Es (U.grown rfl) Ry⟩⟩
def aaY (m:az) (d:ao):
 Fn prog 245 [d.av,AV.ptr m.cells] (AV.bool (decide (d=⟨m.key,m.ar⟩))):=by
 refine Fn.go 11 func245 ntmps245 (λW I a U=>?_);refine fo λI a w U=>?_;refine U.o (.bd fh (.k (.t aW.nil))) λU=>?_;refine U.o (mq [_,_,_] [_,_,_] wq rfl rfl .tt .tt) λU=>?_;refine bc ?_;exact congrArg AV.bool (yY d ⟨m.key,m.ar⟩)
def Et (v:Value) (au more:List az) (hr:au.length<=60):
 gG prog 138 [AV.val v,cQ more] [Own.row v 84 15 (au.map az.cells)] [] (cQ (eB au more)):=by
 refine bT.intro 25 func138 rfl ntmps138 rfl aG (λW I a U=>?_);have hle:=U.dE (t:=1) rfl;refine aB λI a w U=>?_;refine St.lo (σ:=Nat×Value) (0::(run 19 5 [])) ⟨λ⟨k,u⟩=>[(5,AV.int k),(0,AV.val u)],λ⟨k,u⟩=>[Own.row u 84 15 ((wD au more k).map az.cells)],λ⟨k,u⟩=>k<=more.length/\k<=60-au.length⟩ (λ⟨k,u⟩=>more.length-k) (0,v) U ?aL ?bG;case aL=>exact⟨Nat.zero_le _,Nat.zero_le _⟩
 rintro⟨k,u⟩ I a w al U;obtain⟨hk,fZ⟩:=al;have bK:(more.take k).length=k:=by simp;omega
 have BN:=Oz au more k hk;dsimp only at U;refine dI λI a w U=>?_;refine U.q .T (lC 0 fi .ag rfl) λU=>?_;refine aB λI a w U=>?_;refine oV (λae=>?_) λae=>?_
 .rw[List.length_map] at ae;rw[BN] at ae;replace ae:k<more.length/\(au++more.take k).length<60:=⟨ae.1,by omega⟩;refine aV λI a w U=>?_;refine U.o ((by first|exact dW fi dj .tt .tt (λ_=>by exact ae.1)|exact fe fi dj .tt .tt (λ_=>by exact ae.1)|exact fm fi dj .tt .tt (λ_=>by exact ae.1))) λU=>?_;refine U.o .la λU=>?_;refine U.o (.li [(ab more k).cells] gw (.u .nil)) λU=>?_;refine U.append 0 rfl fi dj rfl .tt .r rfl (by rw[BN];simp;omega) λD9 a w U=>?_;rw[bV,show wD au more k++[ab more k]=wD au more (k+1) from rfl] at U;refine aY λI a w U=>?_;exact U.ag (k+1,D9) (⟨ae.1,by have:=ae.2;rw[List.length_append,bK] at this;omega⟩)
 replace ae:¬(k<more.length/\(au++more.take k).length<60):=λhh=>by rw[BN] at ae;simp at ae;simp at hh;omega
 refine wp_exit<|cM<|cM<|fI<|bk<|wp_seq ?_;rw[BN,aah hr hk fZ ae] at U;obtain⟨I,U⟩:=U.fr 0 0;refine aB λI a w U=>?_;refine U.bJ () [] rfl (.cons (.t rfl) .nil) trivial rfl rfl
def Eu {s:Server} {slot:Int} (h:(eG s slot).2.2=true):l5 s slot=true:=by unfold eG at h;split at h;assumption;cases h
def IV {s:Server} {slot:Int} (h:(eG s slot).2.2=false):l5 s slot=false:=by unfold eG at h;split at h;cases h;rename_i hh;simpa using hh
def IW {s:Server} {slot:Int} (h:l5 s slot=true):eG s slot=(kO s slot,gi (kO s slot) slot,true):=by unfold eG;rw[if_pos h]
def BO (code:List UInt8) (p:Int):ao:=⟨bI code p 6,⟨1+bI code (p+1) 5,bI code (p+1+1) 4⟩⟩
end Go.Proofs.YtdanidpleofjgaaGreat
