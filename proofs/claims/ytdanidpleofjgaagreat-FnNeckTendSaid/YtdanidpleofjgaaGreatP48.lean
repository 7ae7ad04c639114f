/- Part 48: contracts of functions, plain facts. -/
import Derived.Test.YtdanidpleofjgaaGreatP50
set_option linter.all false
set_option maxRecDepth 100000
set_option maxHeartbeats 4000000
namespace Go.Proofs.YtdanidpleofjgaaGreat
open Go Go.RowKit Tryz
attribute [local irreducible] wpList Code.wp Ok
def afA (l:List (az)) (p:(az)->Bool) (fv:AV) (hf:∀x:az,x∈l->lD prog fv [x.av] (AV.bool (p x))):
 Fn prog 113 [cQ l,fv] (AV.int (dm p l)):=by
 refine Fn.go 19 func113 ntmps113 (λW I a U=>?_);have hle:=U.dE (t:=0) rfl;refine aY λI a w U=>?_;refine St.lo (σ:=Nat) (run 2 4 (run 11 8 [])) ⟨λk=>[(8,AV.int k)],λk=>[],λk=>k<=l.length/\∀i,i<k->p (ab l i)=false⟩ (λk=>l.length-k) 0 U ?aL ?bG;case aL=>exact⟨Nat.zero_le _,λi hi=>by omega⟩
 rintro k I a w al U;obtain⟨hk,aT⟩:=al;refine ax λI a w U=>?_;refine cz (λae=>?_) λae=>?_
 .refine fo λI a w U=>?_;refine U.o (yi (hf _ (bB ae)) .tt (ai .tt aC)) λU=>?_;refine zt ?_;refine U.cd (λah=>?_) λah=>?_
  .refine di ?_;exact fM (ng ae aT ah).symm
  refine aB λI a w U=>?_;exact U.ag (k+1) (⟨ae,λi h1=>by rcases Nat.lt_succ_iff_lt_or_eq.1 h1 with h|h;exact aT i h;rw[h];exact ah⟩)
 refine zt ?_;refine bc ?_;exact fM (mF om aT).symm
def afB (l:List (List ao)) (p:(List ao)->Bool) (fv:AV) (hf:∀x:List ao,x∈l->lD prog fv [bw x] (AV.bool (p x))):
 Fn prog 117 [gN l,fv] (AV.int (dm p l)):=by
 refine Fn.go 19 func117 ntmps117 (λW I a U=>?_);have hle:=U.dE (t:=0) rfl;refine aY λI a w U=>?_;refine St.lo (σ:=Nat) (run 2 4 (run 11 8 [])) ⟨λk=>[(8,AV.int k)],λk=>[],λk=>k<=l.length/\∀i,i<k->p (ab l i)=false⟩ (λk=>l.length-k) 0 U ?aL ?bG;case aL=>exact⟨Nat.zero_le _,λi hi=>by omega⟩
 rintro k I a w al U;obtain⟨hk,aT⟩:=al;refine ax λI a w U=>?_;refine cz (λae=>?_) λae=>?_
 .refine fo λI a w U=>?_;refine U.o (yi (hf _ (bB ae)) .tt (ai .r aC)) λU=>?_;refine zt ?_;refine U.cd (λah=>?_) λah=>?_
  .refine di ?_;exact fM (ng ae aT ah).symm
  refine aB λI a w U=>?_;exact U.ag (k+1) (⟨ae,λi h1=>by rcases Nat.lt_succ_iff_lt_or_eq.1 h1 with h|h;exact aT i h;rw[h];exact ah⟩)
 refine zt ?_;refine bc ?_;exact fM (mF om aT).symm
def afC (l:List (az)) (p:(az)->Bool) (fv:AV) (hf:∀x:az,x∈l->lD prog fv [x.av] (AV.bool (p x))):
 Fn prog 57 [cQ l,fv] (AV.bool (hasB p l)):=by
 refine Fn.go 9 func57 ntmps57 (λW I a U=>?_);refine aV λI a w U=>?_;refine U.o (.cl (afA _ _ _ hf)) λU=>?_;refine di ?_;rfl
def afD (l:List (List ao)) (p:(List ao)->Bool) (fv:AV) (hf:∀x:List ao,x∈l->lD prog fv [bw x] (AV.bool (p x))):
 Fn prog 60 [gN l,fv] (AV.bool (hasB p l)):=by
 refine Fn.go 9 func60 ntmps60 (λW I a U=>?_);refine aV λI a w U=>?_;refine U.o (.cl (afB _ _ _ hf)) λU=>?_;refine di ?_;rfl
def aI.Fit (w:aI):Prop:=(∀m∈w.au,je m.aU/\je m.to)/\∀d∈w.calls,je d.aq
def Tz:aI:=⟨0,[],[],[],[]⟩
def cI (w:aI) (e:Ev):aI×Bool:=if fS w then iZ w e else(Tz,false)
def afE {x:aI} (h:pJ x=true):0<=x.time/\x.time<=99999:=by
 simp only[pJ,Bool.not_eq_true',Bool.or_eq_false_iff] at h;have:=h.1.1.1;simp[aS] at this;exact this
def afF (m:az) (h1:je m.aU) (h2:je m.to):
 Fn prog 58 [m.av] (AV.bool (wN m)):=by
 refine Fn.go 6 func58 ntmps58 (λW I a U=>?_);refine aV λI a w U=>?_;refine U.o (.c1 (Ko _ h1 h2)) λU=>?_;refine di ?_;rfl
def afG (l:List ao):
 Fn prog 61 [bw l] (AV.bool (wE l)):=by
 refine Fn.go 6 func61 ntmps61 (λW I a U=>?_);refine aH λI a w U=>?_;refine U.o (.cl (A9 ..)) λU=>?_;refine di ?_;rfl
def Ci (x:aI) (hf:x.Fit) (hl:x.calls.length<=1048576):
 Fn prog 21 [x.av] (AV.bool (fS x)):=by
 refine Fn.go 62 func21 ntmps21 (λW I a U=>?_);have lens:x.aw.length<=9223372036854775807/\x.au.length<=9223372036854775807/\x.calls.length<=9223372036854775807/\x.seen.length<=9223372036854775807:=⟨U.ln 0 1,U.ln 0 2,U.ln 0 3,U.ln 0 4⟩;refine bz λI a w U=>?_;refine U.o (.cl (iS ..)) λU=>?_;refine Wl λI a w U=>?_;refine U.cd (λae=>?_) λae=>?_
 .replace ae:pJ x=false:=by unfold pJ;rw[ae];rfl
  refine bc ?_;exact bF (by unfold fS;rw[ae];rfl)
 replace ae:pJ x=true:=by unfold pJ;rw[ae];rfl
 refine aY λI a w U=>?_;refine St.lo (σ:=Nat) (run 3 2 (run 15 30 [])) ⟨λk=>[(30,AV.int k)],λk=>[],λk=>k<=x.aw.length/\∀i,i<k->(qJ x) i=true⟩ (λk=>x.aw.length-k) 0 U ?aL ?bG;case aL=>exact⟨Nat.zero_le _,λi hi=>by omega⟩
 rintro k I a w al U;obtain⟨rV,aT⟩:=al;refine ax λI a w U=>?_;refine cz (λah=>?_) λah=>?_
 .refine aV λI a w U=>?_;refine U.alloc rfl cq dz λb4 I a w U=>?_;refine aB λI a w U=>?_;obtain⟨I,U⟩:=U.fb 0 4;refine dI λI a w U=>?_;refine U.q .F (.cl (xh ..)) λU=>?_;refine aB λI a w U=>?_;refine U.cd (λaj=>?_) λaj=>?_
  .rw[HA] at aj;replace aj:=nt aj;refine bc ?_;exact bF (by unfold fS;rw[fN (f:=qJ x) ah aj];simp)
  rw[HA] at aj;replace aj:=nf aj;refine aB λI a w U=>?_;have U:=U.drop 0;exact U.ag (k+1) (⟨by omega,gO aT aj⟩)
 refine zt ?_;refine aH λI a w U=>?_;refine U.o (.cl (afC x.au wN _ (λm hm=>Fn.MS (afF m (hf.1 m hm).1 (hf.1 m hm).2)))) λU=>?_;refine bz λI a w U=>?_;refine U.q .T (.cl (afD x.seen wE _ (λm _=>Fn.MS (afG m)))) λU=>?_;refine fo λI a w U=>?_;refine U.q .T (cr (Th x.calls x.time (by have:=afE ae;omega) hl hf.2) (ai .ag (ai .ag aC))) λU=>?_;refine di ?_;exact bF (by unfold fS;rw[ae,fJ aT om];rfl)
def Ku {w:aI} (h:fS w=true) (e:Ev):fS (iZ w e).1=true:=by
 unfold iZ;split
 .rename_i hc;refine jy.2 ⟨Sw (jy.1 h).1 e hc.2,?_⟩;show(cT w e).1.time<=99999;rw[Jq];omega
 exact h
def sL {w:aI} (h:fS w=true) (e:Ev):fS (cI w e).1=true:=by
 unfold cI;rw[if_pos h];exact Ku h e
def afH (q:Call) (m:az) (t:Int) (h:dS q t) (ht:t<=1000000) (hm:bM m=true):
 Fn prog 202 [q.av,m.av,AV.int t] ((dG q m t).av):=by
 refine Fn.go 99 func202 ntmps202 (λW I a U=>?_);have al:=sE.2 h;have nF:=h.lens;have hb:=h.bE;have xE:=h.BU om;have aQ:=sd.1 h.aq;refine aH λI a w U=>?_;refine U.alloc rfl eR j2 λb6 I a w U=>?_;refine aH λI a w U=>?_;refine U.o (cr (Jo q t om) (ai (.t rfl) (ai (.t rfl) aC))) λU=>?_;refine ax λI a w U=>?_;refine U.cd (λae=>?_) λae=>?_
 .exfalso;rw[al] at ae;cases ae;skip
 refine bA λI a w U=>?_;refine U.bq [] (Ts q h.small) (ai .tt aC) rfl aM rfl λ⟨u,v⟩ I a w zG U=>?_;dsimp only at U;have U:=U.nf;refine U.alloc rfl eR j2 λb7 I a w U=>?_;refine aH λI a w U=>?_;refine U.o (.c1 (Jt q)) λU=>?_;refine wj λI a w U=>?_;refine U.q .F (cr (Ko m (by have:=uX hm;unfold je;omega) (by have:=uX hm;unfold je;omega)) (ai .ag aC)) λU=>?_;refine Wi λI a w U=>?_;refine U.q .F (.cl (Qk q.keys m.key)) λU=>?_;refine aB λI a w U=>?_;refine U.cd (λah=>?_) λah=>?_
 .rw[Tf] at ah;replace ah:=nt ah;refine wp_seq ?_;obtain⟨I,U⟩:=U.fu 1 11 3;obtain⟨I,U⟩:=U.fu 2 12 3;have U:=U.nf;refine aB λI a w U=>?_;refine U.ret rfl (.cons (.sx 0) ba.nil) ?_;exact(by unfold dG;rw[ah];rfl)
 rw[Tf] at ah;replace ah:=nf ah;have uc:=ah;simp only[Bool.and_eq_true,decide_eq_true_eq] at uc;obtain⟨⟨⟨⟨⟨_,_⟩,_⟩,iH⟩,hw⟩,rq⟩:=uc;have E6:=gz (nx hm).1;refine aN λI a w U=>?_;refine cz (λaj=>?_) λaj=>?_
 .refine dI λI a w U=>?_;refine U.q .T (.cl (yN ..)) λU=>?_;refine ax λI a w U=>?_;refine U.cd (λaJ=>?_) λaJ=>?_
  .refine bz λI a w U=>?_;refine U.pB 3 jF .tt .tt rfl rfl rfl λa w U=>?_;refine aB λI a w U=>?_;obtain⟨I,U⟩:=U.fu 1 11 3;obtain⟨I,U⟩:=U.fu 2 12 3;have U:=U.nf;refine aB λI a w U=>?_;refine U.ret rfl (.cons (.sx 0) ba.nil) ?_;exact(by unfold dG;rw[ah,if_pos rfl,if_pos aj,if_pos (by simpa using aJ)];rfl)
  refine wp_skip<|bk<|wp_seq ?_;obtain⟨I,U⟩:=U.fu 1 11 3;obtain⟨I,U⟩:=U.fu 2 12 3;have U:=U.nf;refine aB λI a w U=>?_;refine U.ret rfl (.cons (.sx 0) ba.nil) ?_;exact(by unfold dG;rw[ah,if_pos rfl,if_pos aj,if_neg (by simpa using aJ)];rfl)
 refine wp_skip<|bk<|wp_seq<|wp_seq<|U.dk ?_;refine tk ?_;refine .q .F2 (dW (i:=0) ea bU .ag .c (λhg=>by simp at hg;omega)) ?_;refine mB ?_;refine .nil ?_;intro I a w U;refine bk ?_;refine U.cd (λaP=>?_) λaP=>?_
 .rw[DP] at aP;replace aP:=nt aP;rw[decide_eq_false_iff_not] at aP;refine wp_seq ?_;obtain⟨I,U⟩:=U.fu 1 11 3;obtain⟨I,U⟩:=U.fu 2 12 3;have U:=U.nf;refine aB λI a w U=>?_;refine U.ret rfl (.cons (.sx 0) ba.nil) ?_;exact(by unfold dG jI;rw[ah,if_pos rfl,if_neg aj,if_neg aP];rfl)
 rw[DP] at aP;replace aP:=nf aP;rw[decide_eq_true_eq] at aP;refine wp_skip<|bk<|wp_seq ?_;have vx:dS (jI q m t) t:=by have:=zB (m:=m) h;unfold dG at this;rw[ah,if_pos rfl,if_neg aj] at this;exact this
 refine aV λI a w U=>?_;refine U.eJ [1,2] (afu q u v m t t h hm aP iH) (ai .tt (ai .tt (ai .tt aC))) rfl aM rfl λI a w U=>?_;refine U.o (.c1 (Tt (jI q m t) vx.small)) λU=>?_;refine ax λI a w U=>?_;refine U.ret rfl (.cons (.sx 0) ba.nil) ?_;exact(by unfold dG;rw[ah,if_pos rfl,if_neg aj];rfl)
def zO:Nat->List Server
 |0=>[]
 |k+1=>zO k++[wF k]
def Kv:∀k,(zO k).length=k
 |0=>rfl
 |k+1=>by show(zO k++[wF k]).length=_;rw[List.length_append,Kv k];rfl
def TA:∀k,(Dy k).length=k
 |0=>rfl
 |k+1=>by show(Dy k++[[]]).length=_;rw[List.length_append,TA k];rfl
def afI (b:Nat) (x:aI) (e:Ev) (s r q z:Value) (hg:cy x) (ht:x.time<=1000000) (hk:e.kind=4):
 bT prog 158 [AV.val (.pointer (some ⟨b,0,none⟩)),e.av] (x.full b s r q z) (λ_:Value=>True) (λu=>bif (iu x e).2 then(iu x e).1.full b s u q z else[]) (λ_=>AV.bool (iu x e).2):=by
 refine bT.intro 111 func158 rfl ntmps158 rfl aG (λW I a U=>?_);change St _ _ [Own.box b 28 [AV.int x.time,AV.val s,AV.val r,AV.val q,AV.val z],Own.row s 43 7 (x.aw.map Server.cells),Own.row r 84 15 (x.au.map az.cells),Own.row q 53 13 (x.calls.map Call.cells),Own.row z 41 1 (x.seen.map dQ)] _ _ _ at U;have nF:=hg.lens;have zI:=hg.seen;have zN:=hg.time;have jn:=hg.au;have uB:=hg.aw;have pF:(iD x e).length<=60:=(Tr hg e).au;have E6:(List.map az.cells x.au).length<=60:=by rw[List.length_map];exact jn
 obtain⟨bS,cS,rfl⟩:=U.ia 1 rfl iv;refine aB λI a w U=>?_;refine U.dk ?_;refine gZ ?_;refine .o (lC 2 fi .tt rfl) ?_;refine aX ?_;refine .o (.cl (iS ..)) ?_;refine aX ?_;refine .nil ?_;intro I a w U;refine bk ?_;refine U.cd (λae=>?_) λae=>?_
 .rw[List.length_map] at ae;replace ae:=nt ae;refine ax λI a w U=>?_;refine U.bJ (.bool false) [] rfl (.cons (.t rfl) .nil) trivial (by rw[E8 ae];rfl) (by rw[E8 ae];rfl)
 rw[List.length_map] at ae;replace ae:=nf ae;have sU:=ae;simp only[aS,Bool.and_eq_true,decide_eq_true_eq] at sU;have hm:=hg.words _ (bB (l:=x.au) (k:=e.word.toNat) om);refine zt ?_;refine U.da 9 ?_;simp only[TD];refine gZ ?_;refine .o (yy 2 fi dj .tt .tt rfl (λ_=>by rw[List.length_map];omega)) ?_;refine .o (N3 2 dj .tt rfl (λ_=>by exact ey om) rfl) ?_;refine gv.alloc dj dN<|.nil ?_;intro I a w U;obtain⟨b5,U⟩:=U.uz (d:=5) rfl;refine U.sb 5 λU=>?_;obtain⟨I,U⟩:=U.fb 5 5;refine nn ?_;refine St.cut (σ:=Value) (run 16 29 []) ⟨λu=>[],λu=>[Own.box b 28 [AV.int x.time,AV.val (.slice (some ⟨bS,0,none⟩) (x.aw.map Server.cells).length cS),AV.val u,AV.val q,AV.val z],Own.row (.slice (some ⟨bS,0,none⟩) (x.aw.map Server.cells).length cS) 43 7 ((x.aw).map Server.cells),Own.row u 84 15 ((iD x e).map az.cells),Own.row q 53 13 ((x.calls).map Call.cells),Own.row z 41 1 ((x.seen).map dQ)],λu=>True⟩ U ?rA ?Ch;case rA=>
  refine aN λI a w U=>?_;refine cz (λah=>?_) λah=>?_
  .refine U.dh (rp 4 (([0],none)::rp 5 (([2],some (2,[42]))::rp 2 [([0],some (0,[42]))]))) aG aG rfl ?_;refine dM ?_;refine .r [0] (.lb 0) ?_;refine fD ?_;refine aK.N4 2 rfl rfl (Tw r x.au e.word om om om) (ai .r (ai .tt (ai .tt aC))) ?_;refine cj ?_;refine aK.AD 0 rfl AT .tt rfl rfl<|.nil ?_;intro I a w U;change St _ _ [Own.box b 28 [AV.int x.time,AV.val (.slice (some ⟨bS,0,none⟩) (x.aw.map Server.cells).length cS),AV.val (a.tmps.getD 42 undef),AV.val q,AV.val z],Own.row (.slice (some ⟨bS,0,none⟩) (x.aw.map Server.cells).length cS) 43 7 ((x.aw).map Server.cells),Own.row (a.tmps.getD 42 undef) 84 15 ((x.au.take e.word.toNat++x.au.drop (e.word.toNat+1)).map az.cells),Own.row q 53 13 ((x.calls).map Call.cells),Own.row z 41 1 ((x.seen).map dQ),Own.gone] _ _ _ at U;generalize a.tmps.getD 42 undef=pn at U;refine bk ?_;have U:=U.drop 5;first|have U:=U.pass (H':=[Own.box b 28 [AV.int x.time,AV.val (.slice (some ⟨bS,0,none⟩) (x.aw.map Server.cells).length cS),AV.val pn,AV.val q,AV.val z],Own.row (.slice (some ⟨bS,0,none⟩) (x.aw.map Server.cells).length cS) 43 7 ((x.aw).map Server.cells),Own.row pn 84 15 ((iD x e).map az.cells),Own.row q 53 13 ((x.calls).map Call.cells),Own.row z 41 1 ((x.seen).map dQ)]) (congrArg (λl:List az=>[Own.box b 28 [AV.int x.time,AV.val (.slice (some ⟨bS,0,none⟩) (x.aw.map Server.cells).length cS),AV.val pn,AV.val q,AV.val z],Own.row (.slice (some ⟨bS,0,none⟩) (x.aw.map Server.cells).length cS) 43 7 ((x.aw).map Server.cells),Own.row pn 84 15 ((l).map az.cells),Own.row q 53 13 ((x.calls).map Call.cells),Own.row z 41 1 ((x.seen).map dQ)]) (show x.au.take e.word.toNat++x.au.drop (e.word.toNat+1)=iD x e from(if_pos (.inr ah)).symm))|have U:=U.pass (H':=[Own.box b 28 [AV.int x.time,AV.val (.slice (some ⟨bS,0,none⟩) (x.aw.map Server.cells).length cS),AV.val r,AV.val q,AV.val z],Own.row (.slice (some ⟨bS,0,none⟩) (x.aw.map Server.cells).length cS) 43 7 ((x.aw).map Server.cells),Own.row r 84 15 ((iD x e).map az.cells),Own.row q 53 13 ((x.calls).map Call.cells),Own.row z 41 1 ((x.seen).map dQ)]) (congrArg (λl:List az=>[Own.box b 28 [AV.int x.time,AV.val (.slice (some ⟨bS,0,none⟩) (x.aw.map Server.cells).length cS),AV.val r,AV.val q,AV.val z],Own.row (.slice (some ⟨bS,0,none⟩) (x.aw.map Server.cells).length cS) 43 7 ((x.aw).map Server.cells),Own.row r 84 15 ((l).map az.cells),Own.row q 53 13 ((x.calls).map Call.cells),Own.row z 41 1 ((x.seen).map dQ)]) (show x.au=iD x e from(if_neg (by rw[hk];simpa using ah)).symm))
   exact U.me pn fU
  refine wp_skip<|bk ?_;have U:=U.drop 5;first|have U:=U.pass (H':=[Own.box b 28 [AV.int x.time,AV.val (.slice (some ⟨bS,0,none⟩) (x.aw.map Server.cells).length cS),AV.val pn,AV.val q,AV.val z],Own.row (.slice (some ⟨bS,0,none⟩) (x.aw.map Server.cells).length cS) 43 7 ((x.aw).map Server.cells),Own.row pn 84 15 ((iD x e).map az.cells),Own.row q 53 13 ((x.calls).map Call.cells),Own.row z 41 1 ((x.seen).map dQ)]) (congrArg (λl:List az=>[Own.box b 28 [AV.int x.time,AV.val (.slice (some ⟨bS,0,none⟩) (x.aw.map Server.cells).length cS),AV.val pn,AV.val q,AV.val z],Own.row (.slice (some ⟨bS,0,none⟩) (x.aw.map Server.cells).length cS) 43 7 ((x.aw).map Server.cells),Own.row pn 84 15 ((l).map az.cells),Own.row q 53 13 ((x.calls).map Call.cells),Own.row z 41 1 ((x.seen).map dQ)]) (show x.au.take e.word.toNat++x.au.drop (e.word.toNat+1)=iD x e from(if_pos (.inr ah)).symm))|have U:=U.pass (H':=[Own.box b 28 [AV.int x.time,AV.val (.slice (some ⟨bS,0,none⟩) (x.aw.map Server.cells).length cS),AV.val r,AV.val q,AV.val z],Own.row (.slice (some ⟨bS,0,none⟩) (x.aw.map Server.cells).length cS) 43 7 ((x.aw).map Server.cells),Own.row r 84 15 ((iD x e).map az.cells),Own.row q 53 13 ((x.calls).map Call.cells),Own.row z 41 1 ((x.seen).map dQ)]) (congrArg (λl:List az=>[Own.box b 28 [AV.int x.time,AV.val (.slice (some ⟨bS,0,none⟩) (x.aw.map Server.cells).length cS),AV.val r,AV.val q,AV.val z],Own.row (.slice (some ⟨bS,0,none⟩) (x.aw.map Server.cells).length cS) 43 7 ((x.aw).map Server.cells),Own.row r 84 15 ((l).map az.cells),Own.row q 53 13 ((x.calls).map Call.cells),Own.row z 41 1 ((x.seen).map dQ)]) (show x.au=iD x e from(if_neg (by rw[hk];simpa using ah)).symm))
  exact U.me r fU
 rintro u I a w al U;refine aH λI a w U=>?_;refine U.o (.c1 (tu ..)) λU=>?_;refine zt ?_;refine U.cd (λaj=>?_) λaj=>?_
 .have iY:=lK.1 aj;have jk:=(hg.site (ab x.au e.word.toNat).to.toNat om).2;refine wp_seq ?_;have U:=U.gF;refine U.dh (rp 3 (([0],none)::rp 2 (([1],none)::([1],none)::rp 5 [([5],some (5,[6])),([5],some (5,[6])),([],none)]))) aG aG rfl ?_;refine dJ ?_;refine .r [0] (.lb 0) ?_;refine cj ?_;refine .r [1] (gq pH cq .tt .tt (λ_=>by rw[List.length_map];omega)) ?_;refine .r [1] (rG 1 cq .tt rfl (λ_=>by exact ey om) rfl) ?_;refine aX ?_;refine .o (.c2 (ae9 (ab x.aw (ab x.au e.word.toNat).to.toNat) (ab x.au e.word.toNat) jk hm)) ?_;refine dJ ?_;refine aK.alloc 5 rfl rfl cq dz<|aK.qv 5 rfl cq rfl .tt rfl rfl ?_;refine aX ?_;refine .nil ?_;intro I a w U;obtain⟨b6,U⟩:=U.my (d:=6) 5 rfl rfl;obtain⟨I,U⟩:=U.fb 5 6;refine zt ?_;refine U.dt 8 ?_;simp only[TD];refine kJ ?_;refine .o (gq pH cq .tt .tt (λ_=>by rw[List.length_map];omega)) ?_;refine .nil ?_;intro I a w U;refine U.jZ 1 cq .tt .tt rfl (by exact ey om) rfl rfl λa w U=>?_;refine wpList_nil ?_;have e9:∀y,y=Server.cells (fH (ab x.aw (ab x.au e.word.toNat).to.toNat) (ab x.au e.word.toNat)).1->(List.map Server.cells x.aw).set (ab x.au e.word.toNat).to.toNat y=List.map Server.cells (x.aw.set (ab x.au e.word.toNat).to.toNat (fH (ab x.aw (ab x.au e.word.toNat).to.toNat) (ab x.au e.word.toNat)).1):=λy hy=>by rw[hy,List.map_set]
  rw[e9] at U;rotate_left
  .rfl
  refine aH λI a w U=>?_;refine U.bq [0,2] (Fa b x.time (.slice (some ⟨bS,0,none⟩) (x.aw.map Server.cells).length cS) u q z (iD x e) (fH (ab x.aw (ab x.au e.word.toNat).to.toNat) (ab x.au e.word.toNat)).2 pF (Tx jk hm).1 (Tx jk hm).2) (ai .tt (ai .r aC)) rfl aM rfl λu2 I a w Fb U=>?_;refine ax λI a w U=>?_;have hR:iu x e=({x with aw:=x.aw.set (ab x.au e.word.toNat).to.toNat (fH (ab x.aw (ab x.au e.word.toNat).to.toNat) (ab x.au e.word.toNat)).1,au:=eB (iD x e) (fH (ab x.aw (ab x.au e.word.toNat).to.toNat) (ab x.au e.word.toNat)).2},true):=by rw[vA ae,if_neg (by rw[hk];decide),if_neg (by rw[Yf aj];simp)]
  refine U.bJ u2 [0,1,2,3,4] rfl (.cons (.t rfl) .nil) trivial (by rw[hR];rfl) (by rw[hR];rfl)
 have iY:=afn hm aj;have afJ:=iY;simp only[aS,Bool.and_eq_true,decide_eq_true_eq] at afJ;refine dI λI a w U=>?_;refine U.o (Dc (xs:=[AV.val (.pointer (some ⟨b,0,none⟩)),AV.int ((ab x.au e.word.toNat).to-10)]) (rP:=[AV.ptr [AV.int x.time,AV.val (.slice (some ⟨bS,0,none⟩) (x.aw.map Server.cells).length cS),AV.val u,fB x.calls,AV.val z],AV.int ((ab x.au e.word.toNat).to-10)]) (Jw x.calls x.time (.slice (some ⟨bS,0,none⟩) (x.aw.map Server.cells).length cS) u z ((ab x.au e.word.toNat).to-10)) (ai .tt (ai .tt aC)) (λc I a w U=>by obtain⟨I,U⟩:=U.fu 3 3 0;obtain⟨I,U⟩:=U.fb 0 0;exact⟨_,_,_,U,rfl,rfl,trivial⟩)) λU=>?_;refine aN λI a w U=>?_;refine cz (λaJ=>?_) λaJ=>?_
 .obtain⟨h1,h2,h3⟩:=qS (show 0<=(cA x.calls ((ab x.au e.word.toNat).to-10)) by omega);have hq:=zB (m:=(ab x.au e.word.toNat)) (hg.call h1);obtain⟨bC,cC,rfl⟩:=U.ia 3 rfl iv;refine wp_seq ?_;refine U.da 14 ?_;simp only[TD];refine fD ?_;refine .o (gq kj eR .tt .tt (λ_=>by rw[List.length_map];omega)) ?_;refine .o (rG 3 eR .tt rfl (λ_=>by exact ey om) rfl) ?_;refine fD ?_;refine .o (.c3 (afH (ab x.calls (cA x.calls ((ab x.au e.word.toNat).to-10)).toNat) (ab x.au e.word.toNat) x.time (hg.call h1) ht hm))<|gv.alloc eR j2<|.nil ?_;intro I a w U;obtain⟨kS,U⟩:=U.uz (d:=10) rfl;refine ax λI a w U=>?_;obtain⟨I,U⟩:=U.fb 5 10;refine U.dt 7 ?_;simp only[TD];refine gZ ?_;refine .o (gq kj eR .tt .tt (λ_=>by rw[List.length_map];omega)) ?_;refine .nil ?_;intro I a w U;refine U.jZ 3 eR .tt .tt rfl (by exact ey om) rfl rfl λa w U=>?_;refine wpList_nil ?_;have e9:∀y,y=Call.cells (dG (ab x.calls (cA x.calls ((ab x.au e.word.toNat).to-10)).toNat) (ab x.au e.word.toNat) x.time)->(List.map Call.cells x.calls).set (cA x.calls ((ab x.au e.word.toNat).to-10)).toNat y=List.map Call.cells (x.calls.set (cA x.calls ((ab x.au e.word.toNat).to-10)).toNat (dG (ab x.calls (cA x.calls ((ab x.au e.word.toNat).to-10)).toNat) (ab x.au e.word.toNat) x.time)):=λy hy=>by rw[hy,List.map_set]
  rw[e9] at U;rotate_left
  .rfl
  refine aN λI a w U=>?_;refine cz (λaP=>?_) λaP=>?_
  .obtain⟨bZ,cZ,rfl⟩:=U.ia 4 rfl iv;refine U.dt 8 ?_;simp only[TD];refine gZ ?_;refine .o (.c1 (afp (dG (ab x.calls (cA x.calls ((ab x.au e.word.toNat).to-10)).toNat) (ab x.au e.word.toNat) x.time) x.time (sE.2 hq))) ?_;refine .o (gq yw qz .tt .tt (λ_=>by rw[List.length_map];omega)) ?_;refine .nil ?_;intro I a w U;refine U.vU (j:=0) 4 qz .tt .tt (by first|exact gn rfl|exact en|exact gC|exact gE|assumption) rfl (by exact ey om) rfl rfl λa w U=>?_;refine wpList_nil ?_;have e8:∀y,y=dQ (gx (dG (ab x.calls (cA x.calls ((ab x.au e.word.toNat).to-10)).toNat) (ab x.au e.word.toNat) x.time))->(List.map dQ x.seen).set ((ab x.au e.word.toNat).to-10).toNat y=List.map dQ (x.seen.set ((ab x.au e.word.toNat).to-10).toNat (gx (dG (ab x.calls (cA x.calls ((ab x.au e.word.toNat).to-10)).toNat) (ab x.au e.word.toNat) x.time))):=λy hy=>by rw[hy,List.map_set]
   rw[e8] at U;rotate_left
   .rfl
   refine ax λI a w U=>?_;have hR:iu x e=({x with au:=iD x e,calls:=x.calls.set (cA x.calls ((ab x.au e.word.toNat).to-10)).toNat (dG (ab x.calls (cA x.calls ((ab x.au e.word.toNat).to-10)).toNat) (ab x.au e.word.toNat) x.time),seen:=x.seen.set ((ab x.au e.word.toNat).to-10).toNat (gx (dG (ab x.calls (cA x.calls ((ab x.au e.word.toNat).to-10)).toNat) (ab x.au e.word.toNat) x.time))},true):=by rw[vA ae,if_neg (by rw[hk];decide),if_pos iY];unfold lu;dsimp only;rw[if_neg om,if_pos aP]
   refine U.bJ u [0,1,2,3,4] rfl (.cons (.t rfl) .nil) trivial (by rw[hR];rfl) (by rw[hR];rfl)
  refine ax λI a w U=>?_;have hR:iu x e=({x with au:=iD x e,calls:=x.calls.set (cA x.calls ((ab x.au e.word.toNat).to-10)).toNat (dG (ab x.calls (cA x.calls ((ab x.au e.word.toNat).to-10)).toNat) (ab x.au e.word.toNat) x.time)},true):=by rw[vA ae,if_neg (by rw[hk];decide),if_pos iY];unfold lu;dsimp only;rw[if_neg om,if_neg om]
  refine U.bJ u [0,1,2,3,4] rfl (.cons (.t rfl) .nil) trivial (by rw[hR];rfl) (by rw[hR];rfl)
 refine ax λI a w U=>?_;have hR:iu x e=({x with au:=iD x e},true):=by rw[vA ae,if_neg (by rw[hk];decide),if_pos iY];unfold lu;dsimp only;rw[if_pos om]
 refine U.bJ u [0,1,2,3,4] rfl (.cons (.t rfl) .nil) trivial (by rw[hR];rfl) (by rw[hR];rfl)
def TB (w:aI) (e:Ev):cT w e=gJ {w with time:=w.time+1} e:=rfl
def TC (code:List UInt8) (aQ:code.length<=1099511627776):
 bT prog 39 [cg code] [] (λr:Nat×List UInt8=>r.2.length<=1099511627776) (λr=>[Own.box r.1 100 [cg r.2,AV.int (0)]]) (λr=>AV.val (.pointer (some ⟨r.1,0,none⟩))):=by
 refine bT.intro 11 func39 rfl ntmps39 rfl aG (λW I a U=>?_);refine bA λI a w U=>?_;refine nn ?_;refine St.cut (σ:=List UInt8) (0::(run 5 3 [])) ⟨λcd=>[(0,cg cd)],λcd=>[],λcd=>cd.length<=1099511627776⟩ U ?Kw ?afK;case Kw=>
  refine aN λI a w U=>?_;refine oV (λae=>?_) λae=>?_
  .refine bA λI a w U=>?_;refine U.o (Ak wo wk .r .c (λ_=>by rw[List.length_map];omega)) λU=>?_;refine ax λI a w U=>?_;refine U.meet (code.take 2000) ?afL dD ?afM (by repeat(first|exact Env.CD|refine Env.hP rfl ?_));case afL=>first|exact aQ|(simp;omega)
   case afM=>exact(Env.dq rfl (by first|rfl|(unfold cg;rw[List.map_take];rfl)) Env.le_nil)
  refine zt ?_;refine U.meet code ?afN dD ?afO (by repeat(first|exact Env.CD|refine Env.hP rfl ?_));case afN=>first|exact aQ|(simp;omega)
  case afO=>exact(Env.dq rfl (by first|rfl|(unfold cg;rw[List.map_take];rfl)) Env.le_nil)
 rintro cd I a w al U;have dV:cd.length<=1099511627776:=al;refine bA λI a w U=>?_;refine U.o (.bd WQ (.k aW.nil)) λU=>?_;refine U.box rfl .tt λkS I a w U=>?_;refine ax λI a w U=>?_;refine U.bJ (kS,cd) [0] rfl (.cons (.t rfl) .nil) dV rfl rfl
def cy.Fit {w:aI} (h:cy w):w.Fit:=⟨λm hm=>(by have:=uX (h.words m hm);unfold je;omega),λq hq=>by
 obtain⟨i,hi,rfl⟩:=g7 hq;have:=sd.1 (h.call hi).aq;unfold je;omega⟩
def afP {w:aI} {e:Ev} (h:fS w=true) (ht:¬99999<=w.time) (hd:(cT w e).2=true):cy (cT w e).1:=by
 have:=Ku h e;unfold iZ at this;rw[if_pos ⟨by omega,hd⟩] at this;exact(jy.1 this).1
def Inv.iZ {w:aI} (h:Inv w) (e:Ev):Inv (iZ w e).1:=by
 unfold Go.Proofs.YtdanidpleofjgaaGreat.iZ;split
 .rename_i hc;exact h.step e hc.2
 exact h
def xN {w:aI} (h:fS w=true) (e:Ev):cI w e=iZ w e:=by unfold cI;rw[if_pos h]
def TE (w:aI) (m:az):(lu w m).aw=w.aw:=by
 unfold lu;dsimp only;split
 .rfl
 split<;>rfl
def afQ {s:Server} (h:s.up=false) (m:az):fH s m=(s,[]):=by
 unfold fH;rw[h];rfl
def afR {w:aI} (hg:cy w) {k:Nat} (hk:k<4) (hd:(sv w k).up=false) {e:Ev} (he:e.kind≠7):sv (iZ w e).1 k=sv w k:=by
 unfold iZ;split
 .rename_i hc;have al:=hc.2;clear hc;have key:∀{i:Nat},i<4->∀{s:Server},(i=k->s=sv w k)->ab (w.aw.set i s) k=sv w k:=λ{i} hi {s} h=>by
   rw[jh (by rw[hg.aw];exact hi)];split
   .rename_i e;exact h e.symm
   rfl
  revert al;unfold cT;dsimp only;split
  .intro _;unfold iC;split
   .unfold kb;split<;>rfl
   dsimp only;split
   .rfl
   split<;>rfl
  split
  .unfold iu;split
   .rename_i hr;intro _;simp only[aS,Bool.and_eq_true,decide_eq_true_eq] at hr;have kD:ab w.au e.word.toNat∈w.au:=bB (by have:=hr.2;have:=hr.1;show e.word.toNat<w.au.length;omega);have hm:=hg.words _ kD;dsimp only;split
    .split<;>rfl
    split
    .show ab (lu _ _).aw k=_;rw[TE];split<;>rfl
    rename_i aQ;have iY:0<=(ab w.au e.word.toNat).to/\(ab w.au e.word.toNat).to<=3:=by
     have:=(ny hm).2.2.1;simp only[lF,cO,aS,Bool.or_eq_true,Bool.and_eq_true,decide_eq_true_eq] at this aQ;omega
    refine key om λe=>?_;rw[e];show(fH (sv w k) _).1=_;rw[afQ hd]
   intro _;rfl
  split
  .rename_i fZ;rw[Bool.and_eq_true] at fZ;obtain⟨hi,_,_,_⟩:=DA fZ.2;unfold fl;dsimp only;rw[if_neg he];split
   .intro al;refine key hi λe2=>?_;rw[e2] at al;rw[show ab w.aw k=sv w k from rfl,hd] at al;cases al
   split
   .intro _;rfl
   split
   .rename_i vu;intro _;refine key hi λe2=>?_;rw[e2] at vu;have:=(uT vu).1;rw[show ab w.aw k=sv w k from rfl,hd] at this;cases this
   intro _;rfl
  intro _;rfl
 rfl
def zP (s:Server):(fQ s).aF=s.aF:=(ze s).2.2.1
def Kx {l:List cG} {i:Nat} {x:cG} (h:(ab l i).bf<=x.bf) (k:Nat):(ab l k).bf<=(ab (l.set i x) k).bf:=by
 rcases Nat.lt_or_ge i l.length with hi|hi
 .rw[jh hi];split
  .rename_i e;rw[e];exact h
  exact Int.le_refl _
 rw[List.set_eq_of_length_le hi];exact Int.le_refl _
def afS (s:Server) (m:az) (k:Nat):(ab s.aF k).bf<=(ab (fH s m).1.aF k).bf:=by
 have same:∀{t:Server},t.aF=s.aF->(ab s.aF k).bf<=(ab t.aF k).bf:=λh=>by rw[h];exact Int.le_refl _
 unfold fH;split
 .unfold eH;split
  .unfold im;split
   .split
    .exact same rfl
    split
    .exact same (zP _)
    exact same rfl
   exact same rfl
  split
  .exact same rfl
  split
  .unfold iq;split
   .dsimp only;split
    .split
     .exact same (zP _)
     exact same rfl
    exact same (zP _)
   exact same rfl
  split
  .unfold l8;split<;>exact same rfl
  split
  .exact same rfl
  split
  .unfold mW;split
   .exact same (zP _)
   exact same rfl
  split
  .unfold ir;split
   .split
    .exact same rfl
    split
    .rename_i aZ _;show _<=(ab (fQ (kr s m)).aF k).bf;rw[zP];exact Kx (by show(ab s.aF m.slot.toNat).bf<=m.bf;omega) k
    exact same rfl
   exact same rfl
  split
  .unfold mX;split
   .rename_i hc;simp only[Bool.and_eq_true,beq_iff_eq] at hc;show _<=(ab (fQ (kR s m)).aF k).bf;rw[zP];exact Kx (by show(ab s.aF m.slot.toNat).bf<=m.bf;omega) k
   exact same rfl
  exact same rfl
 exact same rfl
def afT {w:aI} (hg:cy w) (e:Ev) (i k:Nat):ep w i k<=ep (iZ w e).1 i k:=by
 unfold iZ;split
 .have key:∀{x:aI},x.aw=w.aw->ep w i k<=ep x i k:=λh=>by unfold ep sv;rw[h];exact Int.le_refl _
  have set:∀{x:aI} {j:Nat} {s:Server},x.aw=w.aw.set j s->(ab (sv w j).aF k).bf<=(ab s.aF k).bf->ep w i k<=ep x i k:=λ{x j s} h U=>by
   unfold ep sv;rw[h];rcases Nat.lt_or_ge j w.aw.length with hj|hj
   .rw[jh hj];split
    .rename_i e;rw[e];exact U
    exact Int.le_refl _
   rw[List.set_eq_of_length_le hj];exact Int.le_refl _
  unfold cT;dsimp only;split
  .unfold iC;split
   .unfold kb;split<;>exact key rfl
   dsimp only;split
   .exact key rfl
   split<;>exact key rfl
  split
  .unfold iu;split
   .dsimp only;split
    .split<;>exact key rfl
    split
    .refine key ?_;show(lu _ _).aw=_;rw[TE];split<;>rfl
    exact set rfl (afS _ _ _)
   exact key rfl
  split
  .unfold fl;dsimp only;split
   .exact set rfl (Int.le_refl _)
   split
   .exact set rfl (Int.le_refl _)
   split
   .exact key rfl
   split
   .refine set rfl ?_;exact Kx (l:=(sv w e.at_.toNat).aF) (by show _<=(ab (sv w e.at_.toNat).aF e.slot.toNat).bf+1;omega) k
   exact key rfl
  exact key rfl
 exact Int.le_refl _
section
variable {P:Program} {H:Type} {enc:TypeId×Value->H} {W:World}
def afU {t:TypeId} (ht:P.underlying t=some (.int .u8)):AZ enc P W HU (λ_=>True) t:=λn cs x h=>by
 obtain⟨k,rfl,_,hw⟩:=DataW.trod_int ht h;simp only[Lit.wf,Bool.and_eq_true,decide_eq_true_eq] at hw;have h0:0<=k:=hw.1;have h1:k<=255:=hw.2;refine⟨UInt8.ofNat k.toNat,⟨⟨?_,rfl⟩,trivial⟩,trivial⟩;show Value.int .u8 k=Value.int .u8 ((UInt8.ofNat k.toNat).toNat:Int);rw[UInt8.toNat_ofNat'];congr 1;omega
end
def uh {H:Type} {enc:TypeId×Value->H} {W:World}:AZ enc prog W (λl:List UInt8=>[cg l]) (λl=>∀y∈l,True) 22:=
 XR (t:=22) (sz:=1) (cf:=HU) aG aG aM (λ_=>rfl) (afU (t:=5) aG)
def Server.TF (s:Server) (r:Value×Value×Value):AV:=.agg [.int s.site,.bool s.up,.val r.1,bQ s.an,bQ s.waits,.val r.2.1,.val r.2.2]
def afV (s:Server) (h:qO s):
 bT prog 84 [s.av] [] (λ_:Value×Value×Value=>True) (λr=>[Own.row r.1 46 2 (s.aF.map cG.cells),Own.row r.2.1 115 3 (s.aD.map ao.cells),Own.row r.2.2 115 3 (s.bj.map ao.cells)]) s.TF:=by
 refine bT.intro 27 func84 rfl ntmps84 rfl aG (λW I a U=>?_);obtain⟨h1,⟨h2,h3⟩,⟨h4,h5⟩,h6,h7⟩:=h;refine sr<|U.box rfl .tt λb1 I a w U=>U.alloc rfl cq dz λb2 I a w U=>?_;refine zt ?_;refine U.l0 λb3 I a w U=>?_;refine aH λI a w U=>?_;refine U.ap 2 λv6 a w U=>?_;refine U.o .fv λU=>?_;try have ho6:=U.dZ 2 rfl
 refine aV λI a w U=>?_;refine U.o (.cl (tK s.an h2 h3)) λU=>?_;refine bz λI a w U=>?_;refine U.o (.cl (tK s.waits h4 h5)) λU=>?_;refine aB λI a w U=>?_;refine U.l0 λy9 I a w U=>?_;refine aH λI a w U=>?_;refine U.ap 3 λlP a w U=>?_;refine U.o .fv λU=>?_;try have Rq:=U.dZ 3 rfl
 refine ax λI a w U=>?_;refine U.l0 λzx I a w U=>?_;refine aH λI a w U=>?_;refine U.ap 4 λw8 a w U=>?_;refine U.o .fv λU=>?_;try have Rr:=U.dZ 4 rfl
 refine aN λI a w U=>?_;refine U.bJ (v6,lP,w8) [2,3,4] rfl (.cons (.sx 1) .nil) trivial rfl rfl
def NW (x:aI):Prop:=x.Fit/\x.calls.length<=1048576/\∀q∈x.calls,q.aA.length<=1048576
def NW.of {x y:aI} (h:NW x) (h1:y.au=x.au) (h2:y.calls=x.calls):NW y:=by
 obtain⟨⟨a,b⟩,c,d⟩:=h;exact⟨⟨by rw[h1];exact a,by rw[h2];exact b⟩,by rw[h2];exact c,by rw[h2];exact d⟩
def NW.word {x:aI} (h:NW x) {m:az} (hm:lL m.aU/\lL m.to):NW {x with au:=x.au++[m]}:=by
 obtain⟨⟨a,b⟩,c,d⟩:=h;refine⟨⟨λy hy=>?_,b⟩,c,d⟩;rcases List.mem_append.1 hy with hy|hy
 .exact a y hy
 obtain rfl:=List.mem_singleton.1 hy;unfold lL at hm;unfold je;omega
def NW.words {x:aI} (h:NW x) {m:az} (hm:lL m.aU/\lL m.to):∀n:Nat,NW {x with au:=x.au++List.replicate n m}
 |0=>h.of bt rfl
 |n+1=>((h.words hm n).word hm).of (by show _=(x.au++List.replicate n m)++[m];rw[List.append_assoc,<-List.replicate_succ']) rfl
def NW.call {x:aI} (h:NW x) {i:Nat} (hi:i<x.calls.length) {q:Call} (hc:q.aq=(ab x.calls i).aq) (hg:q.aA=(ab x.calls i).aA):NW {x with calls:=x.calls.set i q}:=by
 obtain⟨⟨a,b⟩,c,d⟩:=h;have hm:ab x.calls i∈x.calls:=bB hi;refine⟨⟨a,λy hy=>?_⟩,by show(x.calls.set i q).length<=_;rw[List.length_set];exact c,λy hy=>?_⟩
 .rcases List.mem_or_eq_of_mem_set hy with hy|rfl
  .exact b y hy
  rw[hc];exact b _ hm
 rcases List.mem_or_eq_of_mem_set hy with hy|rfl
 .exact d y hy
 rw[hg];exact d _ hm
def Ky {α:Type} {f:α->List AV} {l:List α} {i:Nat} {r:List AV} (y:α):((l.map f).set i r).set i (f y)=(l.set i y).map f:=by rw[List.set_set,List.map_set]
def afW {α:Type} {f:α->List AV} {l:List α} {r:List AV} (y:α):((l.map f)++[r]).set l.length (f y)=(l++[y]).map f:=by
 rw[List.set_append_right _ _ bt];simp
def Cj:az:=⟨7,0,1,0,0,⟨0,0⟩,0,false,[],0,0,[],[],[]⟩
def afX (l:List az):Prop:=∀m∈l,je m.aU/\je m.to
def afY (l:List Call):Prop:=(∀q∈l,je q.aq)/\l.length<=1048576/\∀q∈l,q.aA.length<=1048576
def Kz {w:aI} (e:Ev) (h:fS w=false):cI w e=(Tz,false):=by unfold cI;rw[h];rfl
def vB {w:aI} {e:Ev} (h:(cI w e).2=true):fS w=true:=by
 cases hw:fS w with
 |true=>rfl
 |false=>rw[Kz e hw] at h;cases h
def qh (k a:Int):Ev:=⟨k,a,0,0,0,0,0,0,0,0,0⟩
def afZ {w:aI} (h:fS w=true) (ht:w.time<99999) {i:Nat} (hi:i<4):(sv (cI w (qh 6 (i:Int))).1 i).up=false:=by
 have hg:=(jy.1 h).1;have e1:cO (i:Int)=true:=lK.2 om;have e2:(qh 6 (i:Int)).at_.toNat=i:=by show((i:Int)).toNat=i;omega
 have sw:(qh 6 (i:Int)).kind=6:=rfl;have hd:cT w (qh 6 (i:Int))=({w with time:=w.time+1,aw:=w.aw.set i (ll (sv w i))},(sv w i).up):=by
  unfold cT;dsimp only;rw[if_neg om,if_neg om,if_pos (show(aS (qh 6 (i:Int)).kind 6 9&&cO (qh 6 (i:Int)).at_)=true by
   show(aS 6 6 9&&cO (i:Int))=true;rw[e1];decide)]
  unfold fl;dsimp only;rw[e2,sw,if_neg aM,if_pos aM];rfl
 rw[xN h];unfold iZ;rw[hd];dsimp only;cases hu:(sv w i).up with
 |true=>
  rw[if_pos ⟨ht,rfl⟩]
  have e:sv {w with time:=w.time+1,aw:=w.aw.set i (ll (sv w i))} i=ll (sv w i):=by
   show ab (w.aw.set i (ll (sv w i))) i=_;rw[jh (by rw[hg.aw];exact hi),if_pos rfl]
  show(sv {w with time:=w.time+1,aw:=w.aw.set i (ll (sv w i))} i).up=false
  rw[e];rfl
 |false=>rw[if_neg (λh=>by cases h.2)];exact hu
def afz (x:aI) (e:Ev) (hg:cy x) (ht:x.time<=1000000):
 Fn prog 87 [x.av,e.av] (AV.db [(iu x e).1.av,AV.bool (iu x e).2]):=by
 refine Fn.go 87 func87 ntmps87 (λW I a U=>?_);have jn:=hg.au;have jM:=hg.aw;have jl:=Tr hg e;refine sr<|U.box rfl .tt λb2 I a w U=>U.o .bp λU=>U.alloc rfl dx dB λb4 I a w U=>?_;refine fo λI a w U=>?_;refine U.o (.cl (jg ..)) λU=>?_;refine ax λI a w U=>?_;refine U.cd (λae=>?_) λae=>?_
 .rw[Bool.not_eq_true'] at ae;refine aN λI a w U=>?_;refine U.ret rfl (.cons (.sx 1) (.cons (.t rfl) ba.nil)) ?_;exact(by rw[E8 ae];rfl)
 rw[Bool.not_eq_false'] at ae;have sU:=ae;simp only[aS,Bool.and_eq_true,decide_eq_true_eq] at sU;have hm:=hg.words _ (bB (l:=x.au) (k:=e.word.toNat) om);refine dI λI a w U=>?_;refine U.alloc rfl dj dN λb6 I a w U=>?_;refine U.sb 2 λU=>?_;obtain⟨I,U⟩:=U.fb 2 6;refine nn ?_;refine St.cut (σ:=List az) (run 23 24 []) ⟨λrd=>[],λrd=>[Own.box b2 28 [AV.int x.time,iG x.aw,cQ rd,fB x.calls,gN x.seen],Own.box b4 28 [AV.val (.int .i64 0),AV.rows 7 [],AV.rows 15 [],AV.rows 13 [],AV.rows 1 []],Own.gone],λrd=>rd=iD x e⟩ U ?rA ?Ch;case rA=>
  refine rR λI a w U=>?_;refine U.cd (λah=>?_) λah=>?_
  .have U:=U.gF;refine U.dh (rp 2 (([0],none)::rp 3 (([3],some (3,[38]))::([],none)::([0],none)::rp 4 [([3],some (3,[])),([],none),([0],some (0,[]))]))) aG aG rfl ?_;refine .o (tb fi dj) ?_;refine aX ?_;refine .r [0] (.lb 0) ?_;refine cj ?_;refine .o (Ak fi dj .r .tt (λ_=>by simp only[List.length_map];omega)) ?_;refine aK.AF 3 rfl rfl fi dj rfl .tt .r fT ?_;refine aX ?_;refine .r [0] (.lb 0) ?_;refine dJ ?_;refine .o (Aj fi dj .r .tt (λ_=>by simp only[List.length_map];omega)) ?_;refine aK.C4 3 rfl rfl fi dj rfl .r fT ?_;refine aX ?_;refine aK.cX (x:=AV.any) 0 (λF W0 I0 I a w Q U kk=>U.s1 0 λU=>kk _ _ _ U) ?_;refine .nil ?_;intro I a w U;rw[<-List.map_take,<-List.map_drop,<-List.map_append,show(e.word+1).toNat=e.word.toNat+1 by omega] at U;refine bk ?_;have U:=U.drop 3;exact U.me (x.au.take e.word.toNat++x.au.drop (e.word.toNat+1)) (by first|exact(if_pos (by simpa using ah)).symm|exact(if_neg (by simpa using ah)).symm)
  refine zt ?_;have U:=U.drop 3;exact U.me x.au (by first|exact(if_pos (by simpa using ah)).symm|exact(if_neg (by simpa using ah)).symm)
 rintro rd I a w al U;obtain rfl:rd=iD x e:=al;refine aN λI a w U=>?_;refine cz (λaj=>?_) λaj=>?_
 .refine aN λI a w U=>?_;refine U.ret rfl (.cons (.sx 1) (.cons (.t rfl) ba.nil)) ?_;exact(by rw[vA ae,if_pos aj];rfl)
 refine aH λI a w U=>?_;refine U.o (.c1 (A0 ..)) λU=>?_;refine zt ?_;refine U.cd (λaJ=>?_) λaJ=>?_
 .refine aH λI a w U=>?_;refine U.o (.c2 (aff {x with au:=iD x e} (ab x.au e.word.toNat) jl ht aJ)) λU=>?_;refine aB λI a w U=>?_;refine U.ret rfl (.cons (.sx 1) (.cons (.t rfl) ba.nil)) ?_;exact(by rw[vA ae,if_neg aj,if_pos aJ];rfl)
 have iY:=aeZ hm aJ;have jk:=(hg.site (ab x.au e.word.toNat).to.toNat om).2;refine zt ?_;have U:=U.gF;refine U.dh [([],none),([0],none),([],none),([],none),([],none),([],none),([],none),([],none),([],none),([],none),([],none),([3],some (3,[7])),([3],some (3,[7])),([],none)] aG aG rfl ?_;refine aX ?_;refine .r [0] (.lb 0) ?_;refine fD ?_;refine .o (.c2 (ae0 (ab x.aw (ab x.au e.word.toNat).to.toNat) (ab x.au e.word.toNat) jk)) ?_;refine dJ ?_;refine aK.alloc 3 rfl rfl cq dz<|aK.qv 3 rfl cq rfl .tt rfl rfl ?_;refine aX ?_;refine .nil ?_;intro I a w U;obtain⟨b7,U⟩:=U.my (d:=7) 3 rfl rfl;obtain⟨I,U⟩:=U.fb 3 7;refine zt ?_;refine U.l0 λb68 I a w U=>?_;refine aH λI a w U=>?_;refine U.ap 4 λv71 a w U=>?_;simp only[List.nil_append] at U;refine U.o .fv λU=>?_;try have anV:=U.dZ 4 rfl
 refine ax λI a w U=>?_;obtain⟨Cf,Cg,rz⟩:=U.ia 4 rfl pt;subst rz;refine bO λI a w U=>?_;refine U.o (gq pH cq .tt .tt (λ_=>by simp only[List.length_map];omega)) λU=>?_;refine U.jZ 4 cq .tt .tt rfl (by exact ey om) rfl rfl λa w U=>?_;refine nn<|wp_seq ?_;have e9:∀y,y=Server.cells (fH (ab x.aw (ab x.au e.word.toNat).to.toNat) (ab x.au e.word.toNat)).1->(List.map Server.cells x.aw).set (ab x.au e.word.toNat).to.toNat y=List.map Server.cells (x.aw.set (ab x.au e.word.toNat).to.toNat (fH (ab x.aw (ab x.au e.word.toNat).to.toNat) (ab x.au e.word.toNat)).1):=λy hy=>by rw[hy,List.map_set]
 rw[e9] at U;rotate_left
 .rfl
 obtain⟨I,U⟩:=U.fu 4 1 0;refine St.region ?_;refine U.l0 λb79 I a w U=>?_;refine aH λI a w U=>?_;refine U.append 5 rfl fi dj rfl .tt .r rfl (by have h9:(iD x e).length<=60:=jl.au;simp;omega) λJ3 a w U=>?_;simp only[List.nil_append] at U;refine U.m λU=>?_;refine U.eJ [5] (Et J3 (iD x e) (fH (ab x.aw (ab x.au e.word.toNat).to.toNat) (ab x.au e.word.toNat)).2 jl.au) (ai .r (ai .r aC)) rfl aM rfl λI a w U=>?_;refine ct λI a w U=>?_;refine U.ret rfl (.cons (.sx 1) (.cons (.t rfl) ba.nil)) ?_;exact(by rw[vA ae,if_neg aj,if_neg (by rw[aJ];simp)];rfl)
end Go.Proofs.YtdanidpleofjgaaGreat
